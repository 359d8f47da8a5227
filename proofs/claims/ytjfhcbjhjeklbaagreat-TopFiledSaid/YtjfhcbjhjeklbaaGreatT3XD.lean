import Derived.Test.YtjfhcbjhjeklbaaGreatProg
import Derived.Test.YtjfhcbjhjeklbaaGreatT3EB
namespace Go.Proofs.YtjfhcbjhjeklbaaGreat
open Go Go.RowKit Go.Eng
set_option maxRecDepth 10000
set_option maxHeartbeats 4000000
set_option linter.unusedVariables false
set_option linter.unusedSimpArgs false
structure api_Site where
  Name:ByteArray
  X:Int
  Y:Int
  Z:Int
  Rose:Int
  Gates:Int
  Step:Int
  Width:Int
  deriving Inhabited,DecidableEq
def api_Site.cells (x:api_Site):List Value:=[.string x.Name,.int .i64 x.X,.int .i64 x.Y,.int .i64 x.Z,.int .i64 x.Rose,.int .i64 x.Gates,.int .i64 x.Step,.int .i64 x.Width]
theorem api_Site.cells_len (x:api_Site):(api_Site.cells x).length=8:=rfl
structure api_Span where
  Lo:Int
  Hi:Int
  deriving Inhabited,DecidableEq
def api_Span.cells (x:api_Span):List Value:=[.int .i64 x.Lo,.int .i64 x.Hi]
theorem api_Span.cells_len (x:api_Span):(api_Span.cells x).length=2:=rfl
structure mosaic_Radar where
  Site:api_Site
  Offset:api_Span
  deriving Inhabited,DecidableEq
def mosaic_Radar.cells (x:mosaic_Radar):List Value:=[.string x.Site.Name,.int .i64 x.Site.X,.int .i64 x.Site.Y,.int .i64 x.Site.Z,.int .i64 x.Site.Rose,.int .i64 x.Site.Gates,.int .i64 x.Site.Step,.int .i64 x.Site.Width,.int .i64 x.Offset.Lo,.int .i64 x.Offset.Hi]
theorem mosaic_Radar.cells_len (x:mosaic_Radar):(mosaic_Radar.cells x).length=10:=rfl
structure api_Grid where
  X:Int
  Y:Int
  Size:Int
  Wide:Int
  High:Int
  deriving Inhabited,DecidableEq
def api_Grid.cells (x:api_Grid):List Value:=[.int .i64 x.X,.int .i64 x.Y,.int .i64 x.Size,.int .i64 x.Wide,.int .i64 x.High]
theorem api_Grid.cells_len (x:api_Grid):(api_Grid.cells x).length=5:=rfl
structure mosaic_Spec where
  Grid:api_Grid
  Earth:api_Span
  Radars:(List mosaic_Radar)
  Age:Int
  deriving Inhabited,DecidableEq
structure api_Echo where
  Kind:Int
  Power:api_Span
  Steps:(api_Span×api_Span)
  Spread:Int
  Ratio:api_Span
  Match:api_Span
  Turn:api_Span
  deriving Inhabited,DecidableEq
def api_Echo.cells (x:api_Echo):List Value:=[.int .i64 x.Kind,.int .i64 x.Power.Lo,.int .i64 x.Power.Hi,.int .i64 x.Steps.1.Lo,.int .i64 x.Steps.1.Hi,.int .i64 x.Steps.2.Lo,.int .i64 x.Steps.2.Hi,.int .i64 x.Spread,.int .i64 x.Ratio.Lo,.int .i64 x.Ratio.Hi,.int .i64 x.Match.Lo,.int .i64 x.Match.Hi,.int .i64 x.Turn.Lo,.int .i64 x.Turn.Hi]
theorem api_Echo.cells_len (x:api_Echo):(api_Echo.cells x).length=14:=rfl
structure api_Sweep where
  Site:api_Site
  Tilt:Int
  Time:Int
  Rays:(List (List api_Echo))
  deriving Inhabited,DecidableEq
structure api_Field where
  Grid:api_Grid
  Vals:(List api_Span)
  deriving Inhabited,DecidableEq
structure volume_Item where
  Kind:Int
  Name:ByteArray
  Time:Int
  Sweep:api_Sweep
  Field:api_Field
  Text:ByteArray
  deriving Inhabited,DecidableEq
structure volume_writer where
  b:(List Int)
  deriving Inhabited,DecidableEq
structure volume_field where
  key:ByteArray
  time:Int
  Field:api_Field
  deriving Inhabited,DecidableEq
structure top_Filed where
  Messages:(List (Int×Int×Int))
  First:Int
  Second:Int
  Order:(List Int)
  Time:Int
  deriving Inhabited,DecidableEq
structure volume_reader where
  b:(List Int)
  deriving Inhabited,DecidableEq
structure volume_entry where
  time:Int
  block:(List Int)
  deriving Inhabited,DecidableEq
structure mosaic_Key where
  Name:ByteArray
  Tilt:Int
  Time:Int
  deriving Inhabited,DecidableEq
def mosaic_Key.cells (x:mosaic_Key):List Value:=[.string x.Name,.int .i64 x.Tilt,.int .i64 x.Time]
theorem mosaic_Key.cells_len (x:mosaic_Key):(mosaic_Key.cells x).length=3:=rfl
structure mosaic_where where
  name:ByteArray
  tilt:Int
  deriving Inhabited,DecidableEq
def mosaic_where.cells (x:mosaic_where):List Value:=[.string x.name,.int .i64 x.tilt]
theorem mosaic_where.cells_len (x:mosaic_where):(mosaic_where.cells x).length=2:=rfl
structure mosaic_Node where
  spec:mosaic_Spec
  radars:(List (ByteArray×mosaic_Radar))
  horizon:Int
  kept:(List (mosaic_Key×(List (List api_Span))))
  count:Int
  looks:(List (mosaic_where×(List api_Span)))
  deriving Inhabited,DecidableEq
structure mosaic_Message where
  Key:mosaic_Key
  Vals:(List api_Span)
  deriving Inhabited,DecidableEq
structure beam_slant where
  c:Int
  s:Int
  d:Int
  deriving Inhabited,DecidableEq
def beam_slant.cells (x:beam_slant):List Value:=[.int .i64 x.c,.int .i64 x.s,.int .i64 x.d]
theorem beam_slant.cells_len (x:beam_slant):(beam_slant.cells x).length=3:=rfl
structure beam_vector where
  x:Int
  y:Int
  length:Int
  deriving Inhabited,DecidableEq
def beam_vector.cells (x:beam_vector):List Value:=[.int .i64 x.x,.int .i64 x.y,.int .i64 x.length]
theorem beam_vector.cells_len (x:beam_vector):(beam_vector.cells x).length=3:=rfl
structure mosaic_used where
  Key:mosaic_Key
  vals:(List api_Span)
  bands:(List api_Span)
  deriving Inhabited,DecidableEq
structure mosaic_Pixel where
  Value_:api_Span
  Key:mosaic_Key
  deriving Inhabited,DecidableEq
def mosaic_Pixel.cells (x:mosaic_Pixel):List Value:=[.int .i64 x.Value_.Lo,.int .i64 x.Value_.Hi,.string x.Key.Name,.int .i64 x.Key.Tilt,.int .i64 x.Key.Time]
theorem mosaic_Pixel.cells_len (x:mosaic_Pixel):(mosaic_Pixel.cells x).length=5:=rfl
structure mosaic_reader where
  left:(List Int)
  deriving Inhabited,DecidableEq
def ar59.cells (x:(Int×Int×Int)):List Value:=[.int .u8 x.1,.int .u8 x.2.1,.int .u8 x.2.2]
theorem ar59.cells_len (x:(Int×Int×Int)):(ar59.cells x).length=3:=rfl
abbrev api_Site.ar (x:api_Site):Array Value:=#[.string x.Name,.int .i64 x.X,.int .i64 x.Y,.int .i64 x.Z,.int .i64 x.Rose,.int .i64 x.Gates,.int .i64 x.Step,.int .i64 x.Width]
abbrev api_Site.ag (x:api_Site):Value:=.agg #[.string x.Name,.int .i64 x.X,.int .i64 x.Y,.int .i64 x.Z,.int .i64 x.Rose,.int .i64 x.Gates,.int .i64 x.Step,.int .i64 x.Width]
abbrev mosaic_Radar.ar (x:mosaic_Radar):Array Value:=#[.string x.Site.Name,.int .i64 x.Site.X,.int .i64 x.Site.Y,.int .i64 x.Site.Z,.int .i64 x.Site.Rose,.int .i64 x.Site.Gates,.int .i64 x.Site.Step,.int .i64 x.Site.Width,.int .i64 x.Offset.Lo,.int .i64 x.Offset.Hi]
abbrev mosaic_Radar.ag (x:mosaic_Radar):Value:=.agg #[.string x.Site.Name,.int .i64 x.Site.X,.int .i64 x.Site.Y,.int .i64 x.Site.Z,.int .i64 x.Site.Rose,.int .i64 x.Site.Gates,.int .i64 x.Site.Step,.int .i64 x.Site.Width,.int .i64 x.Offset.Lo,.int .i64 x.Offset.Hi]
abbrev api_Grid.ar (x:api_Grid):Array Value:=#[.int .i64 x.X,.int .i64 x.Y,.int .i64 x.Size,.int .i64 x.Wide,.int .i64 x.High]
abbrev api_Grid.ag (x:api_Grid):Value:=.agg #[.int .i64 x.X,.int .i64 x.Y,.int .i64 x.Size,.int .i64 x.Wide,.int .i64 x.High]
abbrev mosaic_Key.ar (x:mosaic_Key):Array Value:=#[.string x.Name,.int .i64 x.Tilt,.int .i64 x.Time]
abbrev mosaic_Key.ag (x:mosaic_Key):Value:=.agg #[.string x.Name,.int .i64 x.Tilt,.int .i64 x.Time]
abbrev beam_slant.ar (x:beam_slant):Array Value:=#[.int .i64 x.c,.int .i64 x.s,.int .i64 x.d]
abbrev beam_slant.ag (x:beam_slant):Value:=.agg #[.int .i64 x.c,.int .i64 x.s,.int .i64 x.d]
abbrev beam_vector.ar (x:beam_vector):Array Value:=#[.int .i64 x.x,.int .i64 x.y,.int .i64 x.length]
abbrev beam_vector.ag (x:beam_vector):Value:=.agg #[.int .i64 x.x,.int .i64 x.y,.int .i64 x.length]
abbrev mosaic_Pixel.ar (x:mosaic_Pixel):Array Value:=#[.int .i64 x.Value_.Lo,.int .i64 x.Value_.Hi,.string x.Key.Name,.int .i64 x.Key.Tilt,.int .i64 x.Key.Time]
abbrev volume_Item.ax (x:volume_Item) (adg1_:Option Addr) (capg2_:Nat) (adg4_:Option Addr) (capg5_:Nat):Array Value:=#[.int .i64 x.Kind,.string x.Name,.int .i64 x.Time,.string x.Sweep.Site.Name,.int .i64 x.Sweep.Site.X,.int .i64 x.Sweep.Site.Y,.int .i64 x.Sweep.Site.Z,.int .i64 x.Sweep.Site.Rose,.int .i64 x.Sweep.Site.Gates,.int .i64 x.Sweep.Site.Step,.int .i64 x.Sweep.Site.Width,.int .i64 x.Sweep.Tilt,.int .i64 x.Sweep.Time,.slice adg1_ x.Sweep.Rays.length capg2_,.int .i64 x.Field.Grid.X,.int .i64 x.Field.Grid.Y,.int .i64 x.Field.Grid.Size,.int .i64 x.Field.Grid.Wide,.int .i64 x.Field.Grid.High,.slice adg4_ x.Field.Vals.length capg5_,.string x.Text]
abbrev mosaic_Node.ax (x:mosaic_Node) (adg1_:Option Addr) (capg2_:Nat) (mg3_:Nat) (mg4_:Nat) (mg5_:Nat):Array Value:=#[.int .i64 x.spec.Grid.X,.int .i64 x.spec.Grid.Y,.int .i64 x.spec.Grid.Size,.int .i64 x.spec.Grid.Wide,.int .i64 x.spec.Grid.High,.int .i64 x.spec.Earth.Lo,.int .i64 x.spec.Earth.Hi,.slice adg1_ x.spec.Radars.length capg2_,.int .i64 x.spec.Age,.map (some mg3_),.int .i64 x.horizon,.map (some mg4_),.int .i64 x.count,.map (some mg5_)]
abbrev mosaic_Spec.ax (x:mosaic_Spec) (adg1_:Option Addr) (capg2_:Nat):Array Value:=#[.int .i64 x.Grid.X,.int .i64 x.Grid.Y,.int .i64 x.Grid.Size,.int .i64 x.Grid.Wide,.int .i64 x.Grid.High,.int .i64 x.Earth.Lo,.int .i64 x.Earth.Hi,.slice adg1_ x.Radars.length capg2_,.int .i64 x.Age]
abbrev volume_field.ax (x:volume_field) (adg1_:Option Addr) (capg2_:Nat):Array Value:=#[.string x.key,.int .i64 x.time,.int .i64 x.Field.Grid.X,.int .i64 x.Field.Grid.Y,.int .i64 x.Field.Grid.Size,.int .i64 x.Field.Grid.Wide,.int .i64 x.Field.Grid.High,.slice adg1_ x.Field.Vals.length capg2_]
abbrev api_Field.ax (x:api_Field) (adg1_:Option Addr) (capg2_:Nat):Array Value:=#[.int .i64 x.Grid.X,.int .i64 x.Grid.Y,.int .i64 x.Grid.Size,.int .i64 x.Grid.Wide,.int .i64 x.Grid.High,.slice adg1_ x.Vals.length capg2_]
abbrev api_Site.e0 (x:api_Site):Bool:=((x.Name==ByteArray.empty)&&(((x.X:Int)==0)&&(((x.Y:Int)==0)&&(((x.Z:Int)==0)&&(((x.Rose:Int)==0)&&(((x.Gates:Int)==0)&&(((x.Step:Int)==0)&&(((x.Width:Int)==0)&&true))))))))
abbrev mosaic_Radar.e0 (x:mosaic_Radar):Bool:=((x.Site.Name==ByteArray.empty)&&(((x.Site.X:Int)==0)&&(((x.Site.Y:Int)==0)&&(((x.Site.Z:Int)==0)&&(((x.Site.Rose:Int)==0)&&(((x.Site.Gates:Int)==0)&&(((x.Site.Step:Int)==0)&&(((x.Site.Width:Int)==0)&&(((x.Offset.Lo:Int)==0)&&(((x.Offset.Hi:Int)==0)&&true))))))))))
abbrev api_Grid.e0 (x:api_Grid):Bool:=(((x.X:Int)==0)&&(((x.Y:Int)==0)&&(((x.Size:Int)==0)&&(((x.Wide:Int)==0)&&(((x.High:Int)==0)&&true)))))
abbrev api_Echo.e0 (x:api_Echo):Bool:=(((x.Kind:Int)==0)&&(((x.Power.Lo:Int)==0)&&(((x.Power.Hi:Int)==0)&&(((x.Steps.1.Lo:Int)==0)&&(((x.Steps.1.Hi:Int)==0)&&(((x.Steps.2.Lo:Int)==0)&&(((x.Steps.2.Hi:Int)==0)&&(((x.Spread:Int)==0)&&(((x.Ratio.Lo:Int)==0)&&(((x.Ratio.Hi:Int)==0)&&(((x.Match.Lo:Int)==0)&&(((x.Match.Hi:Int)==0)&&(((x.Turn.Lo:Int)==0)&&(((x.Turn.Hi:Int)==0)&&true))))))))))))))
abbrev mosaic_Key.e0 (x:mosaic_Key):Bool:=((x.Name==ByteArray.empty)&&(((x.Tilt:Int)==0)&&(((x.Time:Int)==0)&&true)))
abbrev beam_slant.e0 (x:beam_slant):Bool:=(((x.c:Int)==0)&&(((x.s:Int)==0)&&(((x.d:Int)==0)&&true)))
abbrev beam_vector.e0 (x:beam_vector):Bool:=(((x.x:Int)==0)&&(((x.y:Int)==0)&&(((x.length:Int)==0)&&true)))
abbrev mosaic_Pixel.e0 (x:mosaic_Pixel):Bool:=(((x.Value_.Lo:Int)==0)&&(((x.Value_.Hi:Int)==0)&&((x.Key.Name==ByteArray.empty)&&(((x.Key.Tilt:Int)==0)&&(((x.Key.Time:Int)==0)&&true)))))
abbrev z57:Array Value:=#[.int .i64 0,.string ByteArray.empty,.int .i64 0,.string ByteArray.empty,.int .i64 0,.int .i64 0,.int .i64 0,.int .i64 0,.int .i64 0,.int .i64 0,.int .i64 0,.int .i64 0,.int .i64 0,.slice none 0 0,.int .i64 0,.int .i64 0,.int .i64 0,.int .i64 0,.int .i64 0,.slice none 0 0,.string ByteArray.empty]
abbrev z94:Array Value:=#[.string ByteArray.empty,.int .i64 0,.int .i64 0,.int .i64 0,.int .i64 0,.int .i64 0,.int .i64 0,.int .i64 0,.int .i64 0,.int .i64 0]
abbrev z39:Array Value:=#[.int .i64 0,.int .i64 0,.int .i64 0,.int .i64 0,.int .i64 0,.int .i64 0,.int .i64 0,.slice none 0 0,.int .i64 0]
abbrev z49:Array Value:=#[.string ByteArray.empty,.int .i64 0,.int .i64 0,.int .i64 0,.int .i64 0,.int .i64 0,.int .i64 0,.int .i64 0]
abbrev B7j:Array Value:=#[.string ByteArray.empty,.int .i64 0,.int .i64 0,.int .i64 0,.int .i64 0,.int .i64 0,.int .i64 0,.slice none 0 0]
abbrev z55:Array Value:=#[.int .i64 0,.int .i64 0,.int .i64 0,.int .i64 0,.int .i64 0,.slice none 0 0]
abbrev z34:Array Value:=#[.int .i64 0,.int .i64 0,.int .i64 0,.int .i64 0,.int .i64 0]
abbrev z27:Array Value:=#[.slice none 0 0,.int .u32 0,.int .u32 0,.slice none 0 0,.int .u16 0]
abbrev z76:Array Value:=#[.int .i64 0,.int .i64 0,.string ByteArray.empty,.int .i64 0,.int .i64 0]
abbrev z65:Array Value:=#[.string ByteArray.empty,.int .i64 0,.int .i64 0,.slice none 0 0]
def Rp215:Rel (List api_Echo):=fun μ cs x=>∃(ad1:Option Addr) (cap2:Nat),cs=[.slice ad1 x.length cap2]/\ArrM μ 14 api_Echo.cells ad1 cap2 x
theorem Rp215.mono:Rel.Mono Rp215:=by
  intro μ ν cs x hle h;obtain ⟨ad1,cap2,rfl,f0⟩:=h;exact ⟨ad1,cap2,rfl,f0.mono hle⟩
def Rp142:Rel volume_field:=fun μ cs x=>∃(ad1:Option Addr) (cap2:Nat),cs=[.string x.key,.int .i64 x.time,.int .i64 x.Field.Grid.X,.int .i64 x.Field.Grid.Y,.int .i64 x.Field.Grid.Size,.int .i64 x.Field.Grid.Wide,.int .i64 x.Field.Grid.High,.slice ad1 x.Field.Vals.length cap2]/\ArrM μ 2 api_Span.cells ad1 cap2 x.Field.Vals
theorem Rp142.mono:Rel.Mono Rp142:=by
  intro μ ν cs x hle h;obtain ⟨ad1,cap2,rfl,f0⟩:=h;exact ⟨ad1,cap2,rfl,f0.mono hle⟩
def Rp57:Rel volume_Item:=fun μ cs x=>∃(ad1:Option Addr) (cap2:Nat) (css3:List (List Value)) (ad4:Option Addr) (cap5:Nat),cs=[.int .i64 x.Kind,.string x.Name,.int .i64 x.Time,.string x.Sweep.Site.Name,.int .i64 x.Sweep.Site.X,.int .i64 x.Sweep.Site.Y,.int .i64 x.Sweep.Site.Z,.int .i64 x.Sweep.Site.Rose,.int .i64 x.Sweep.Site.Gates,.int .i64 x.Sweep.Site.Step,.int .i64 x.Sweep.Site.Width,.int .i64 x.Sweep.Tilt,.int .i64 x.Sweep.Time,.slice ad1 x.Sweep.Rays.length cap2,.int .i64 x.Field.Grid.X,.int .i64 x.Field.Grid.Y,.int .i64 x.Field.Grid.Size,.int .i64 x.Field.Grid.Wide,.int .i64 x.Field.Grid.High,.slice ad4 x.Field.Vals.length cap5,.string x.Text]/\ArrQ μ 1 Rp215 ad1 cap2 css3 x.Sweep.Rays/\ArrM μ 2 api_Span.cells ad4 cap5 x.Field.Vals
theorem Rp57.mono:Rel.Mono Rp57:=by
  intro μ ν cs x hle h;obtain ⟨ad1,cap2,css3,ad4,cap5,rfl,f0,f1⟩:=h;exact ⟨ad1,cap2,css3,ad4,cap5,rfl,f0.mono Rp215.mono hle,f1.mono hle⟩
instance:RM Rp57:=⟨Rp57.mono⟩
theorem Rp57.one:Rel.One 21 Rp57:=by
  intro μ cs x h;obtain ⟨ad1,cap2,css3,ad4,cap5,rfl,f0,f1⟩:=h
  all_goals rfl
def Rp24:Rel (List Int):=fun μ cs x=>∃(ad1:Option Addr) (cap2:Nat),cs=[.slice ad1 x.length cap2]/\ArrM μ 1 (fK .u8) ad1 cap2 x
theorem Rp24.mono:Rel.Mono Rp24:=by
  intro μ ν cs x hle h;obtain ⟨ad1,cap2,rfl,f0⟩:=h;exact ⟨ad1,cap2,rfl,f0.mono hle⟩
instance:RM Rp24:=⟨Rp24.mono⟩
def Rp86:Rel volume_entry:=fun μ cs x=>∃(ad1:Option Addr) (cap2:Nat),cs=[.int .i64 x.time,.slice ad1 x.block.length cap2]/\ArrM μ 1 (fK .u8) ad1 cap2 x.block
theorem Rp86.mono:Rel.Mono Rp86:=by
  intro μ ν cs x hle h;obtain ⟨ad1,cap2,rfl,f0⟩:=h;exact ⟨ad1,cap2,rfl,f0.mono hle⟩
instance:RM Rp86:=⟨Rp86.mono⟩
theorem Rp86.one:Rel.One 2 Rp86:=by
  intro μ cs x h;obtain ⟨ad1,cap2,rfl,f0⟩:=h
  all_goals rfl
def Rp53:Rel (List api_Span):=fun μ cs x=>∃(ad1:Option Addr) (cap2:Nat),cs=[.slice ad1 x.length cap2]/\ArrM μ 2 api_Span.cells ad1 cap2 x
theorem Rp53.mono:Rel.Mono Rp53:=by
  intro μ ν cs x hle h;obtain ⟨ad1,cap2,rfl,f0⟩:=h;exact ⟨ad1,cap2,rfl,f0.mono hle⟩
instance:RM Rp53:=⟨Rp53.mono⟩
theorem Rp53.one:Rel.One 1 Rp53:=by
  intro μ cs x h;obtain ⟨ad1,cap2,rfl,f0⟩:=h
  all_goals rfl
def Rp133:Rel mosaic_used:=fun μ cs x=>∃(ad1:Option Addr) (cap2:Nat) (ad3:Option Addr) (cap4:Nat),cs=[.string x.Key.Name,.int .i64 x.Key.Tilt,.int .i64 x.Key.Time,.slice ad1 x.vals.length cap2,.slice ad3 x.bands.length cap4]/\ArrM μ 2 api_Span.cells ad1 cap2 x.vals/\ArrM μ 2 api_Span.cells ad3 cap4 x.bands
theorem Rp133.mono:Rel.Mono Rp133:=by
  intro μ ν cs x hle h;obtain ⟨ad1,cap2,ad3,cap4,rfl,f0,f1⟩:=h;exact ⟨ad1,cap2,ad3,cap4,rfl,f0.mono hle,f1.mono hle⟩
instance:RM Rp133:=⟨Rp133.mono⟩
theorem Rp133.one:Rel.One 5 Rp133:=by
  intro μ cs x h;obtain ⟨ad1,cap2,ad3,cap4,rfl,f0,f1⟩:=h
  all_goals rfl
def Rp65:Rel mosaic_Message:=fun μ cs x=>∃(ad1:Option Addr) (cap2:Nat),cs=[.string x.Key.Name,.int .i64 x.Key.Tilt,.int .i64 x.Key.Time,.slice ad1 x.Vals.length cap2]/\ArrM μ 2 api_Span.cells ad1 cap2 x.Vals
theorem Rp65.mono:Rel.Mono Rp65:=by
  intro μ ν cs x hle h;obtain ⟨ad1,cap2,rfl,f0⟩:=h;exact ⟨ad1,cap2,rfl,f0.mono hle⟩
instance:RM Rp65:=⟨Rp65.mono⟩
theorem Rp65.one:Rel.One 4 Rp65:=by
  intro μ cs x h;obtain ⟨ad1,cap2,rfl,f0⟩:=h
  all_goals rfl
inductive volume_thing where
  | nil_
  | ic142 (x:volume_field)
  deriving Inhabited,DecidableEq
def volume_thing.cs {α:Type} (x:volume_thing) (a:α) (a0:volume_field->α):α:=match x with|.nil_=>a|.ic142 x=>a0 x 
theorem volume_thing.toNil {α:Type} {x:volume_thing} {a:α} {a0:volume_field->α} {z:α} (hq:x=.nil_) (h:x.cs a a0=z):a=z:=by subst hq;exact h
theorem volume_thing.to142 {α:Type} {x:volume_thing} {y:volume_field} {a:α} {a0:volume_field->α} {z:α} (hq:x=.ic142 y) (h:x.cs a a0=z):a0 y=z:=by subst hq;exact h
def volume_thing.R (μ:Frz) (v:Value) (x:volume_thing):Prop:=match x with|.nil_=>v=.nilIface|.ic142 y=>∃cs:List Value,v=.iface 142 (.agg cs.toArray)/\Rp142 μ cs y 
theorem volume_thing.R.mono {μ ν:Frz} {v:Value} {x:volume_thing} (h:volume_thing.R μ v x) (hle:μ.le ν):volume_thing.R ν v x:=by
  cases x with
  | nil_=>exact h
  | ic142 y=>  obtain ⟨cs,h1,h2⟩:=h;exact ⟨cs,h1,Rp142.mono _ _ _ _ hle h2⟩
theorem volume_thing.R.one {μ:Frz} {v:Value} {x:volume_thing} (h:volume_thing.R μ v x):v.cells=#[v]/\v.oneCell'=true:=by
  cases x with
  | nil_=>obtain rfl:v=.nilIface:=h;exact ⟨rfl,rfl⟩
  | ic142 y=>obtain ⟨cs,rfl,_⟩:=h;exact ⟨rfl,rfl⟩
def Ko (p0:ByteArray):Bool:=B5t p0
def or3 (x y z:Int):Int:=if x≠0 then x else if y≠0 then y else z
def Jf (x y:mosaic_Key):Int:=or3 (if x.Time<y.Time then -1 else if y.Time<x.Time then 1 else 0) (if Wt x.Name y.Name then -1 else if Vy x.Name y.Name then 1 else 0) (if x.Tilt<y.Tilt then -1 else if y.Tilt<x.Tilt then 1 else 0)
def Gd (l:List mosaic_Key):List mosaic_Key:=Sg Jf l
def Km (F:Nat) (p0:mosaic_Node):Option (List mosaic_Key):=if p0.kept.length<=1000000 then some (Gd (p0.kept.map (·.1))) else none
def Mk (F:Nat) (p0:List (List api_Span)) (p1:Int) (p2:List (List api_Span)):Option (List (List api_Span)):=if 0<=p1/\p1<=(p0.length:Int)/\p2.length=1/\p0.length<=1000000 then some (p0.take p1.toNat++p2++p0.drop p1.toNat) else none
def Ze (time:Int) (p:mosaic_Key×List (List api_Span)):Bool:=decide (p.1.Time<time)
def X7 (time:Int) (l:List (mosaic_Key×List (List api_Span))):Nat:=((l.filter (Ze time)).map λp=>p.2.length).sum
def ndK:List mosaic_Key->Bool
  | []=>true
  | k::l=>!l.contains k&&ndK l
def M7 (F:Nat) (p0:mosaic_Node) (p1:Int):Option (Int×mosaic_Node):=if ndK (p0.kept.map (·.1))=true/\-1000000000000<=p0.count/\p0.count<=1000000000000/\X7 p1 p0.kept<=1000000000000 then some ((X7 p1 p0.kept:Int),{ p0 with horizon:=p1,kept:=p0.kept.filter (λp=>!Ze p1 p),count:=p0.count-X7 p1 p0.kept }) else none
def X8 (F:Nat) (p0:mosaic_Node):Option mosaic_Node:=some p0
def Bp (p0:List Int) (p1:Int):Int:=A8l p0 p1
def Le:List Int->List Int->Int
  | [],[]=>0
  | [],_::_=>-1
  | _::_,[]=>1
  | x::a,y::b=>if x<y then -1 else if y<x then 1 else Le a b
def enB (s:volume_entry):Prop:=(-4000000000000000000<=s.time/\s.time<=4000000000000000000)/\∀x∈s.block,0<=x/\x<256
instance (s:volume_entry):Decidable (enB s):=by unfold enB;infer_instance
def Dk (x y:volume_entry):Int:=if x.time=y.time then Le x.block y.block else x.time-y.time
def L6 (F:Nat) (p0:List volume_entry):Option (List volume_entry):=if (∀s∈p0,enB s)/\p0.length<4611686018427387904 then some (p0.mergeSort λx y=>decide (Dk x y<=0)) else none
def Ul:volume_entry->List volume_entry->List volume_entry
  | _,[]=>[]
  | p,x::xs=>if x.block=p.block then Ul x xs else x::Ul x xs
def A6d:List volume_entry->List volume_entry
  | []=>[]
  | x::xs=>x::Ul x xs
def Ht (F:Nat) (p0:List volume_entry):Option (List volume_entry):=if (∀s∈p0,enB s)/\p0.length<4611686018427387904 then some (A6d p0) else none
def top_filedSpec:mosaic_Spec:=(mosaic_Spec.mk (api_Grid.mk (-2000) (-1000) 1000 4 2) (api_Span.mk 8000000 8000000) ([(mosaic_Radar.mk (api_Site.mk (⟨#[97]⟩:ByteArray) (-1500) (-500) 100 1 3 1000 0) (api_Span.mk 0 0)),(mosaic_Radar.mk (api_Site.mk (⟨#[98]⟩:ByteArray) 1500 (-500) 100 1 3 1000 0) (api_Span.mk 5 10))]) 40)
def Lb (p0:(Int×Int×Int)) (a0:(List api_Span)):Option volume_Item:=(ck p0.1).bind λa2=>(J9 a2 2).bind λa3=>(ck p0.2.1).bind λa4=>(J9 a4 60).bind λa5=>(Cj ([(⟨#[97]⟩:ByteArray),(⟨#[98]⟩:ByteArray)]) a3).bind λa1=>some (volume_Item.mk 2 a1 a5 (api_Sweep.mk (api_Site.mk ByteArray.empty 0 0 0 0 0 0 0) 0 0 ([]:(List (List api_Echo)))) (api_Field.mk (api_Grid.mk top_filedSpec.Grid.X top_filedSpec.Grid.Y top_filedSpec.Grid.Size top_filedSpec.Grid.Wide top_filedSpec.Grid.High) a0) ByteArray.empty)
def La (p0:(Int×Int×Int)) (k2:((List api_Span)->Int->Option volume_Item)) (a1:(List api_Span)) (a0:Int):Option volume_Item:=bif (decide (a0<8)) then ((ck p0.2.2).bind λa4=>(J9 a4 5).bind λa5=>(ck (a5+a0)).bind λa2=>(ck p0.2.2).bind λa6=>(J9 a6 3).bind λa7=>(ck (a2+a7)).bind λa8=>(apd 16 a1 ([(api_Span.mk a2 a8)])).bind λa3=>(ck (a0+1)).bind λa9=>k2 a3 a9) else (Lb p0 a1)
def G6 (p0:(Int×Int×Int)):Nat->(List api_Span)->Int->Option volume_Item
  | 0,_,_=>none
  | n+1,a0,a1=>La p0 (G6 p0 n) a0 a1
def Hh (F:Nat) (p0:(Int×Int×Int)):Option volume_Item:=G6 p0 F ([]) 0
def Fb (a1:Int) (k1:((List Int)->Int->Option volume_writer)) (a0:(List Int)):Option volume_writer:=(ck (a1+1)).bind λa2=>k1 a0 a2
def Fc (a2:Int) (k1:((List Int)->Int->Option volume_writer)) (a0:(List Int)) (a3:Int):Option volume_writer:=(ck (1+a3)).bind λa4=>(apd 1 a0 ([IntKind.u8.wrap a4])).bind λa1=>Fb a2 k1 a1
def Fa (a3:Int) (k1:((List Int)->Int->Option volume_writer)) (k4:((List Int)->Int->Option volume_writer)) (a1:(List Int)) (a0:Int):Option volume_writer:=bif (decide (a0>=127)) then ((J9 a0 127).bind λa4=>(ck (128+a4)).bind λa5=>(apd 1 a1 ([IntKind.u8.wrap a5])).bind λa2=>(Mc a0 127).bind λa6=>k4 a2 a6) else (Fc a3 k1 a1 a0)
def D9 (a0:Int) (k1:((List Int)->Int->Option volume_writer)):Nat->(List Int)->Int->Option volume_writer
  | 0,_,_=>none
  | n+1,a1,a2=>Fa a0 k1 (D9 a0 k1 n) a1 a2
def F9 (F:Nat) (p1:(List Int)) (k1:((List Int)->Int->Option volume_writer)) (a1:(List Int)) (a0:Int):Option volume_writer:=bif (decide (a0<(p1.length:Int))) then ((Cj p1 a0).bind λa2=>D9 a0 k1 F a1 a2) else (some (volume_writer.mk a1))
def D8 (F:Nat) (p1:(List Int)):Nat->(List Int)->Int->Option volume_writer
  | 0,_,_=>none
  | n+1,a0,a1=>F9 F p1 (D8 F p1 n) a0 a1
def B3 (F:Nat) (p0:volume_writer) (p1:(List Int)):Option volume_writer:=D8 F p1 F p0.b 0
def Nq (a0:(List Int)):Option (List Int):=(Cj a0 4).bind λa2=>(Cj a0 4).bind λa3=>(A4r a0 4 (IntKind.u8.wrap (a2-127))).bind λa1=>some a1
def Lm (k3:(Int->Int->Int->(List Int)->Option (List Int))) (a2:Int) (a0:Int) (a3:Int) (a1:(List Int)):Option (List Int):=bif (decide (a0<a2)) then ((J9 a3 127).bind λa5=>(ck (128+a5)).bind λa6=>(Cj a1 a0).bind λa9=>(A4r a1 a0 (IntKind.u8.wrap a6)).bind λa4=>(Mc a3 127).bind λa7=>(ck (a0+1)).bind λa8=>k3 a2 a8 a7 a4) else (Nq a1)
def Fe:Nat->Int->Int->Int->(List Int)->Option (List Int)
  | 0,_,_,_,_=>none
  | n+1,a1,a2,a3,a0=>Lm (Fe n) a1 a2 a3 a0
def Np (F:Nat) (a1:Int):Option (List Int):=(mkI 1 5 0).bind λa0=>Fe F (a0.length:Int) 0 a1 a0
def No (F:Nat) (p0:(List Int)) (k4:(Int->Int->Option (List Int))) (a0:Int) (a1:Int):Option (List Int):=bif (decide (a0<(p0.length:Int))) then ((Cj p0 a0).bind λa2=>(ck (31*a1)).bind λa3=>(ck a2).bind λa4=>(ck (a3+a4)).bind λa5=>(J9 a5 2147483647).bind λa6=>(ck (a0+1)).bind λa7=>k4 a7 a6) else (Np F a1)
def K2 (F:Nat) (p0:(List Int)):Nat->Int->Int->Option (List Int)
  | 0,_,_=>none
  | n+1,a0,a1=>No F p0 (K2 F p0 n) a0 a1
def Lz (F:Nat) (p0:(List Int)):Option (List Int):=K2 F p0 F 0 1
def Fw (F:Nat) (p0:volume_writer) (p1:ByteArray):Option volume_writer:=(B3 F p0 ([((p1.size:Nat):Int)])).bind λy8=>(apd 1 y8.b (sby p1)).bind λa0=>some (volume_writer.mk a0)
def Cx (a1:Int) (k1:((List Int)->Int->Option volume_writer)) (a0:(List Int)):Option volume_writer:=(ck (a1+1)).bind λa2=>k1 a0 a2
def El (F:Nat) (p1:(List Int)) (k1:((List Int)->Int->Option volume_writer)) (a1:(List Int)) (a0:Int):Option volume_writer:=bif (decide (a0<(p1.length:Int))) then ((Cj p1 a0).bind λa2=>bif (decide (a2<0)) then ((ck ((-2)*a2)).bind λa3=>(ck (a3-1)).bind λa4=>(B3 F (volume_writer.mk a1) ([a4])).bind λa6=>Cx a0 k1 a6.b) else ((ck (2*a2)).bind λa5=>(B3 F (volume_writer.mk a1) ([a5])).bind λa7=>Cx a0 k1 a7.b)) else (some (volume_writer.mk a1))
def C0 (F:Nat) (p1:(List Int)):Nat->(List Int)->Int->Option volume_writer
  | 0,_,_=>none
  | n+1,a0,a1=>El F p1 (C0 F p1 n) a0 a1
def Dm (F:Nat) (p0:volume_writer) (p1:(List Int)):Option volume_writer:=C0 F p1 F p0.b 0
def Fv (F:Nat) (p0:volume_writer) (p1:api_Span):Option volume_writer:=(Dm F p0 ([p1.Lo])).bind λy9=>(ck (p1.Hi-p1.Lo)).bind λa0=>(B3 F y9 ([a0])).bind λa1=>some a1
def C8 (F:Nat) (a7:Int) (a8:Int) (a5:(List Int)) (a2:(List api_Span)) (k1:(Int->Int->(List Int)->(List api_Span)->Option volume_writer)) (a3:Int):Option volume_writer:=(B3 F (volume_writer.mk a5) ([a3])).bind λa4=>(K4 a2 a3 (a2.length:Int)).bind λa0=>bif (decide ((a0.length:Int)>0)) then ((Cj a0 0).bind λa1=>(K4 a0 1 (a0.length:Int)).bind λa6=>(Fv F a4 a1).bind λa9=>k1 a1.Lo a1.Hi a9.b a6) else (k1 a7 a8 a4.b a0)
def D0 (F:Nat) (a3:Int) (a4:Int) (a5:(List Int)) (a1:(List api_Span)) (k1:(Int->Int->(List Int)->(List api_Span)->Option volume_writer)) (k3:(Int->Option volume_writer)) (a0:Int):Option volume_writer:=(gd (((decide (a0<(a1.length:Int)))==true&&true)) (Cj a1 a0) default).bind λa2=>bif (bif (decide (a0<(a1.length:Int))) then (((a2.Lo:Int)==a3)&&(((a2.Hi:Int)==a4)&&true)) else false) then ((ck (a0+1)).bind λa6=>k3 a6) else (C8 F a3 a4 a5 a1 k1 a0)
def Bo (F:Nat) (a2:Int) (a3:Int) (a0:(List Int)) (a1:(List api_Span)) (k1:(Int->Int->(List Int)->(List api_Span)->Option volume_writer)):Nat->Int->Option volume_writer
  | 0,_=>none
  | n+1,a4=>D0 F a2 a3 a0 a1 k1 (Bo F a2 a3 a0 a1 k1 n) a4
def C7 (F:Nat) (k1:(Int->Int->(List Int)->(List api_Span)->Option volume_writer)) (a2:Int) (a3:Int) (a0:(List Int)) (a1:(List api_Span)):Option volume_writer:=bif (decide ((a1.length:Int)>0)) then (Bo F a2 a3 a0 a1 k1 F 0) else (some (volume_writer.mk a0))
def Bg (F:Nat):Nat->Int->Int->(List Int)->(List api_Span)->Option volume_writer
  | 0,_,_,_,_=>none
  | n+1,a2,a3,a0,a1=>C7 F (Bg F n) a2 a3 a0 a1
def Co (F:Nat) (p0:volume_writer) (p1:(List api_Span)) (p2:api_Span):Option volume_writer:=Bg F F p2.Lo p2.Hi p0.b p1
def Gh (F:Nat) (p0:volume_field) (p1:volume_writer):Option volume_writer:=(B3 F p1 ([2])).bind λa0=>(Fw F a0 p0.key).bind λa1=>(B3 F a1 ([p0.time])).bind λa2=>(Dm F a2 ([p0.Field.Grid.X,p0.Field.Grid.Y])).bind λa3=>(B3 F a3 ([p0.Field.Grid.Size,p0.Field.Grid.Wide,p0.Field.Grid.High])).bind λa4=>(Co F a4 p0.Field.Vals (api_Span.mk 0 0)).bind λa5=>some a5
def M3 (F:Nat) (p0:volume_thing) (p1:volume_writer):Option volume_writer:=p0.cs none (λy=>Gh F y p1)
def Hc (F:Nat) (p0:volume_thing):Option (List Int):=(M3 F p0 (volume_writer.mk ([]:(List Int)))).bind λy5=>(B3 F (volume_writer.mk ([]:(List Int))) ([(y5.b.length:Int)])).bind λa3=>(apd 1 a3.b y5.b).bind λa0=>(Lz F a0).bind λa4=>(apd 1 a0 a4).bind λa1=>(apd 1 ([0]) a1).bind λa2=>some a2
def At (p0:volume_field):volume_Item:=(volume_Item.mk 2 p0.key p0.time (api_Sweep.mk (api_Site.mk ByteArray.empty 0 0 0 0 0 0 0) 0 0 ([]:(List (List api_Echo)))) p0.Field ByteArray.empty)
def Ni (F:Nat) (p0:volume_Item):Option volume_thing:=bif (p0.Kind==1) then (none) else (bif (p0.Kind==2) then (bif (bif (bif (bif (bif (!(sEq p0.Name ((At (volume_field.mk p0.Name p0.Time p0.Field)).Name))) then true else (p0.Time != ((At (volume_field.mk p0.Name p0.Time p0.Field)).Time))) then true else (!(sEq p0.Text ((At (volume_field.mk p0.Name p0.Time p0.Field)).Text)))) then true else (!(bif (bif (bif ((p0.Sweep.Site.Name==ByteArray.empty)&&(((p0.Sweep.Site.X:Int)==0)&&(((p0.Sweep.Site.Y:Int)==0)&&(((p0.Sweep.Site.Z:Int)==0)&&(((p0.Sweep.Site.Rose:Int)==0)&&(((p0.Sweep.Site.Gates:Int)==0)&&(((p0.Sweep.Site.Step:Int)==0)&&(((p0.Sweep.Site.Width:Int)==0)&&true)))))))) then (p0.Sweep.Tilt==0) else false) then (p0.Sweep.Time==0) else false) then ((p0.Sweep.Rays.length:Int)==0) else false))) then true else false) then (none) else (some (volume_thing.ic142 (volume_field.mk p0.Name p0.Time p0.Field)))) else (bif (p0.Kind==3) then (none) else (none)))
def Pl (F:Nat) (p0:ByteArray):Option Bool:=(gd (((bif (!(sEq p0 (⟨#[]⟩:ByteArray))) then (decide (((p0.size:Nat):Int)<=12)) else false)==true&&true)) (B0s p0 (0:Int)) default).bind λu1=>(gd (((bif (bif (!(sEq p0 (⟨#[]⟩:ByteArray))) then (decide (((p0.size:Nat):Int)<=12)) else false) then (decide (u1>=97)) else false)==true&&true)) (B0s p0 (0:Int)) default).bind λu2=>some (bif (bif (bif (bif (!(sEq p0 (⟨#[]⟩:ByteArray))) then (decide (((p0.size:Nat):Int)<=12)) else false) then (decide (u1>=97)) else false) then (decide (u2<=122)) else false) then (!(Ko p0)) else false)
def Af (p0:Int) (p1:Int) (p2:Int):Bool:=bif (decide (p1<=p0)) then (decide (p0<=p2)) else false
def Dr (c2:Bool):Option Int:=bif c2 then (none) else (some 0)
def Dh (F:Nat) (p0:api_Grid):Option Int:=bif (!(Af p0.X (-1048576) 1048576)) then (Dr (!(Af p0.X (-1048576) 1048576))) else (bif (!(Af p0.Y (-1048576) 1048576)) then (Dr (!(Af p0.Y (-1048576) 1048576))) else (bif (!(Af p0.Size 1 10000)) then (Dr (!(Af p0.Size 1 10000))) else (bif (!(Af p0.Wide 1 64)) then (Dr (!(Af p0.Wide 1 64))) else (Dr (!(Af p0.High 1 64))))))
def Qs:Option Int:=some 0
def Nj (p0:api_Field) (p1:Int) (k2:(Int->Option Int)) (a1:Int):Option Int:=bif (decide (a1<(p0.Vals.length:Int))) then ((Cj p0.Vals a1).bind λa0=>bif (bif (bif (decide (a0.Lo<0)) then true else (decide (a0.Hi<a0.Lo))) then true else (decide (a0.Hi>p1))) then (none) else ((ck (a1+1)).bind λa2=>k2 a2)) else (Qs)
def Jx (p0:api_Field) (p1:Int):Nat->Int->Option Int
  | 0,_=>none
  | n+1,a0=>Nj p0 p1 (Jx p0 p1 n) a0
def Rm (F:Nat) (p0:api_Field) (p1:Int):Option Int:=(Dh F p0.Grid).bind λy5=>bif (y5 != 0) then (none) else ((ck (p0.Grid.Wide*p0.Grid.High)).bind λx6=>bif ((p0.Vals.length:Int) != x6) then (none) else (Jx p0 p1 F 0))
def Gr (F:Nat) (p0:api_Field):Option Int:=(Rm F p0 1073741824).bind λy5=>some y5
def Dj (F:Nat) (p0:volume_field):Option Int:=(Pl F p0.key).bind λy5=>bif (!y5) then (none) else (bif (bif (decide (p0.time<0)) then true else (decide (p0.time>4294967296))) then (none) else ((Gr F p0.Field).bind λy6=>some y6))
def Kt (F:Nat) (p0:volume_Item):Option (volume_thing×Int):=(Ni F p0).bind λa1=>volume_thing.cs a1 (none) (λa0=>(Dj F a0).bind λa2=>some ((volume_thing.ic142 a0),a2))
def Ma (F:Nat) (p0:volume_Item):Option ((List Int)×Int):=(Kt F p0).bind λa0=>bif (a0.2 != 0) then (none) else ((Hc F a0.1).bind λa1=>some (a1,0))
def Ls (a0:(List Int)):Option ((List Int)×Int):=bif (decide ((a0.length:Int)>16777216)) then (none) else (some (a0,0))
def Lr (F:Nat) (p0:(List volume_Item)) (k2:(Int->(List Int)->Option ((List Int)×Int))) (a0:Int) (a1:(List Int)):Option ((List Int)×Int):=bif (decide (a0<(p0.length:Int))) then ((Cj p0 a0).bind λa4=>(Ma F a4).bind λa2=>bif (a2.2 != 0) then (none) else ((apd 1 a1 a2.1).bind λa3=>(ck (a0+1)).bind λa5=>k2 a5 a3)) else (Ls a1)
def Gw (F:Nat) (p0:(List volume_Item)):Nat->Int->(List Int)->Option ((List Int)×Int)
  | 0,_,_=>none
  | n+1,a1,a0=>Lr F p0 (Gw F p0 n) a1 a0
def Ms (F:Nat) (p0:(List volume_Item)):Option ((List Int)×Int):=bif (decide ((p0.length:Int)>1000)) then (none) else (Gw F p0 F 0 ([82,86,70,49]))
def L8 (F:Nat) (a1:(List volume_Item)):Option ((List Int)×Int):=(Ms F a1).bind λa0=>some (a0.1,a0.2)
def G4 (a1:Int) (k2:((List volume_Item)->Int->Option ((List Int)×Int))) (a0:(List volume_Item)):Option ((List Int)×Int):=(ck (a1+1)).bind λa2=>k2 a0 a2
def L7 (F:Nat) (p0:top_Filed) (p1:Int) (k2:((List volume_Item)->Int->Option ((List Int)×Int))) (a1:(List volume_Item)) (a0:Int):Option ((List Int)×Int):=bif (decide (a0<(p0.Messages.length:Int))) then ((J9 a0 32).bind λa4=>(A78 .u32 p1 a4).bind λa5=>bif ((A1v .u32 a5 1)==1) then ((Cj p0.Messages a0).bind λa2=>(Hh F (a2.1,a2.2.1,a2.2.2)).bind λa6=>(apd 224 a1 ([a6])).bind λa3=>G4 a0 k2 a3) else (G4 a0 k2 a1)) else (L8 F a1)
def G5 (F:Nat) (p0:top_Filed) (p1:Int):Nat->(List volume_Item)->Int->Option ((List Int)×Int)
  | 0,_,_=>none
  | n+1,a0,a1=>L7 F p0 p1 (G5 F p0 p1 n) a0 a1
def Ea (F:Nat) (p0:top_Filed) (p1:Int):Option ((List Int)×Int):=G5 F p0 p1 F ([]) 0
def H3 (p0:(List Int)) (p1:(List Int)):Bool:=sEq (bst p0) (bst p1)
def Js (F:Nat) (p0:(List Int)) (p1:(List Int)):Option Bool:=bif (decide ((p0.length:Int)>=(p1.length:Int))) then ((K4 p0 (0:Int) (p1.length:Int)).bind λl8=>some (H3 l8 p1)) else (some false)
def Gi {σ:Type} (body:(σ->(Int×(List Int))->Option (σ×Bool))) (c0_:(List Int)) (k1:(Int->σ->Option (σ×Bool))) (a0:Int) (a4:σ):Option (σ×Bool):=bif (bif (decide (a0>=0)) then (decide (a0<(c0_.length:Int))) else false) then ((ck (a0+1)).bind λa7=>(K4 c0_ a7 (c0_.length:Int)).bind λa1=>bif (decide ((Bp a1 0)<0)) then ((ck (a0+1)).bind λa8=>(K4 c0_ a8 (c0_.length:Int)).bind λa5=>(body a4 (a0,a5)).bind λa2=>bif a2.2 then (some (a2.1,true)) else (some (a2.1,false))) else ((ck (a0+1)).bind λa9=>(ck (a0+1)).bind λaA=>(ck (aA+(Bp a1 0))).bind λaB=>(K4 c0_ a9 aB).bind λa6=>(body a4 (a0,a6)).bind λa3=>bif a3.2 then ((ck (1+(Bp a1 0))).bind λaC=>(ck (a0+aC)).bind λaD=>k1 aD a3.1) else (some (a3.1,false)))) else (some (a4,true))
def E3 {σ:Type} (body:(σ->(Int×(List Int))->Option (σ×Bool))) (c0_:(List Int)):Nat->Int->σ->Option (σ×Bool)
  | 0,_,_=>none
  | n+1,a1,a0=>Gi body c0_ (E3 body c0_ n) a1 a0
def Dz {σ:Type} (F:Nat) (c0_:(List Int)) (body:σ->(Int×(List Int))->Option (σ×Bool)) (s_:σ):Option (σ×Bool):=E3 body c0_ F (Bp c0_ 0) s_
def Ud (p0:(List Int)):Unit:=()
def F7 (p0:volume_reader):Option (Except (Value×volume_reader) (Int×volume_reader)):=some (.error (.iface 177 (.int .i64 7),p0))
def F8 (a2:Int) (a3:Int) (a0:Int) (k2:(Int->Int->Int->Option (Except (Value×volume_reader) (Int×volume_reader)))) (a1:Int):Option (Except (Value×volume_reader) (Int×volume_reader)):=(ck a1).bind λa4=>(ck (a4-128)).bind λa5=>(ck (a5*a0)).bind λa6=>(ck (a3+a6)).bind λa7=>(ck (a0*127)).bind λa8=>(ck (a2+1)).bind λa9=>k2 a9 a7 a8
def F6 (p0:volume_reader) (a2:(List Int)) (k2:(Int->Int->Int->Option (Except (Value×volume_reader) (Int×volume_reader)))) (a1:Int) (a3:Int) (a4:Int):Option (Except (Value×volume_reader) (Int×volume_reader)):=bif (decide (a1<(a2.length:Int))) then ((Cj a2 a1).bind λa0=>bif (bif (bif (a0==0) then true else (a0==255)) then true else (bif (a0==1) then (decide (a1>0)) else false)) then (some (.error (.iface 177 (.int .i64 7),p0))) else (bif (decide (a0<128)) then ((ck (a1+1)).bind λa6=>(K4 p0.b a6 (p0.b.length:Int)).bind λa5=>(ck a0).bind λa7=>(ck (a7-1)).bind λa8=>(ck (a8*a4)).bind λa9=>(ck (a3+a9)).bind λaA=>some (.ok (aA,(volume_reader.mk a5)))) else (F8 a1 a3 a4 k2 a0))) else (F7 p0)
def Br (p0:volume_reader) (a0:(List Int)):Nat->Int->Int->Int->Option (Except (Value×volume_reader) (Int×volume_reader))
  | 0,_,_,_=>none
  | n+1,a1,a2,a3=>F6 p0 a0 (Br p0 a0 n) a1 a2 a3
def Am (F:Nat) (p0:volume_reader):Option (Except (Value×volume_reader) (Int×volume_reader)):=(K4 p0.b (0:Int) (if 8<(p0.b.length:Int) then 8 else (p0.b.length:Int))).bind λa0=>Br p0 a0 F 0 0 1
def Bm (F:Nat) (p0:volume_reader):Option (Int×Bool×volume_reader):=(Am F p0).bind λy5=>exc y5 (λe7=>(asI 177 .i64 e7.1).bind λa0=>some (0,false,(volume_reader.mk e7.2.b))) λy6=>some (y6.1,true,(volume_reader.mk y6.2.b))
def Fm (c4:Bool):Option Int:=bif c4 then (none) else (some 0)
def Gx (p0:api_Site) (c3:Bool):Option Int:=bif c3 then (none) else (bif (!(Af p0.Rose 1 90)) then (Fm (!(Af p0.Rose 1 90))) else (bif (!(Af p0.Gates 1 200)) then (Fm (!(Af p0.Gates 1 200))) else (bif (!(Af p0.Step 50 2000)) then (Fm (!(Af p0.Step 50 2000))) else (Fm (!(Af p0.Width 0 8))))))
def beam_CheckSite (F:Nat) (p0:api_Site):Option Int:=(Pl F p0.Name).bind λy2=>bif (!y2) then (none) else (bif (!(Af p0.X (-1048576) 1048576)) then (Gx p0 (!(Af p0.X (-1048576) 1048576))) else (bif (!(Af p0.Y (-1048576) 1048576)) then (Gx p0 (!(Af p0.Y (-1048576) 1048576))) else (Gx p0 (!(Af p0.Z 0 20000)))))
def P2 (F:Nat) (p0:Int):Option Unit:=bif (p0 != 0) then (none) else (some ())
def Fz (y5:(Int×volume_reader)):Option (ByteArray×volume_reader):=(K4 y5.2.b (0:Int) y5.1).bind λa0=>(K4 y5.2.b y5.1 (y5.2.b.length:Int)).bind λa1=>some ((bst a0),(volume_reader.mk a1))
def Ei (F:Nat) (p0:volume_reader):Option (ByteArray×volume_reader):=(Am F p0).bind λy4=>exc y4 (λe6=>none) λy5=>bif (decide (y5.1>(y5.2.b.length:Int))) then (none) else (Fz y5)
def C2 (F:Nat) (p0:volume_reader):Option (Int×volume_reader):=(Am F p0).bind λy4=>exc y4 (λe6=>none) λy5=>(J9 y5.1 2).bind λa0=>bif (a0==1) then ((ck (y5.1+1)).bind λa1=>(Mc (IntKind.i64.wrap (0-a1)) 2).bind λa2=>some (a2,(volume_reader.mk y5.2.b))) else ((Mc y5.1 2).bind λa3=>some (a3,(volume_reader.mk y5.2.b)))
def Fu (F:Nat) (p0:volume_reader):Option (api_Span×volume_reader):=(C2 F p0).bind λy5=>(Am F (volume_reader.mk y5.2.b)).bind λa2=>exc a2 (λa3=>none) λa0=>(ck (y5.1+a0.1)).bind λa1=>some ((api_Span.mk y5.1 a1),(volume_reader.mk a0.2.b))
def Ce (a2:Int) (a3:Int) (a0:(List Int)) (a1:(List api_Span)):Option ((List api_Span)×volume_reader):=some (a1,(volume_reader.mk a0))
def D4 (k2:(Int->Int->(List Int)->(List api_Span)->Option ((List api_Span)×volume_reader))) (a1:(List api_Span)) (a0:(api_Span×volume_reader)):Option ((List api_Span)×volume_reader):=(apd 16 a1 ([(api_Span.mk a0.1.Lo a0.1.Hi)])).bind λa2=>k2 a0.1.Lo a0.1.Hi a0.2.b a2
def Cf (F:Nat) (p1:Int) (a2:Int) (a3:Int) (k2:(Int->Int->(List Int)->(List api_Span)->Option ((List api_Span)×volume_reader))) (a4:(Int×volume_reader)) (a0:(List api_Span)):Option ((List api_Span)×volume_reader):=bif (decide ((a0.length:Int)<p1)) then ((Fu F (volume_reader.mk a4.2.b)).bind λa1=>bif (((a1.1.Lo:Int)==a2)&&(((a1.1.Hi:Int)==a3)&&true)) then (none) else (D4 k2 a0 a1)) else (k2 a2 a3 a4.2.b a0)
def D2 (F:Nat) (p1:Int) (a1:Int) (a2:Int) (k2:(Int->Int->(List Int)->(List api_Span)->Option ((List api_Span)×volume_reader))) (a4:(Int×volume_reader)) (k6:(Int->(List api_Span)->Option ((List api_Span)×volume_reader))) (a3:Int) (a0:(List api_Span)):Option ((List api_Span)×volume_reader):=bif (decide (a3<a4.1)) then ((apd 16 a0 ([(api_Span.mk a1 a2)])).bind λa5=>(ck (a3+1)).bind λa6=>k6 a6 a5) else (Cf F p1 a1 a2 k2 a4 a0)
def Bh (F:Nat) (p1:Int) (a0:Int) (a1:Int) (k2:(Int->Int->(List Int)->(List api_Span)->Option ((List api_Span)×volume_reader))) (a2:(Int×volume_reader)):Nat->Int->(List api_Span)->Option ((List api_Span)×volume_reader)
  | 0,_,_=>none
  | n+1,a4,a3=>D2 F p1 a0 a1 k2 a2 (Bh F p1 a0 a1 k2 a2 n) a4 a3
def D3 (F:Nat) (p1:Int) (a1:Int) (a2:Int) (a0:(List api_Span)) (k2:(Int->Int->(List Int)->(List api_Span)->Option ((List api_Span)×volume_reader))) (a3:(Int×volume_reader)):Option ((List api_Span)×volume_reader):=Bh F p1 a1 a2 k2 a3 F 0 a0
def Cc (F:Nat) (p1:Int) (k2:(Int->Int->(List Int)->(List api_Span)->Option ((List api_Span)×volume_reader))) (a2:Int) (a3:Int) (a1:(List Int)) (a0:(List api_Span)):Option ((List api_Span)×volume_reader):=bif (decide ((a0.length:Int)<p1)) then ((Am F (volume_reader.mk a1)).bind λa6=>exc a6 (λa7=>none) λa4=>(ck (p1-(a0.length:Int))).bind λa5=>bif (decide (a4.1>a5)) then (none) else (D3 F p1 a2 a3 a0 k2 a4)) else (Ce a2 a3 a1 a0)
def B7 (F:Nat) (p1:Int):Nat->Int->Int->(List Int)->(List api_Span)->Option ((List api_Span)×volume_reader)
  | 0,_,_,_,_=>none
  | n+1,a2,a3,a0,a1=>Cc F p1 (B7 F p1 n) a2 a3 a0 a1
def Ct (F:Nat) (p0:volume_reader) (p1:Int) (p2:api_Span):Option ((List api_Span)×volume_reader):=B7 F p1 F p2.Lo p2.Hi p0.b ([])
def J4 (a0:(List Int)):Option (volume_thing×volume_reader):=none
def Fi (F:Nat) (p0:volume_reader):Option (volume_thing×volume_reader):=(Am F p0).bind λaA=>exc aA (λaG=>none) λa0=>bif (a0.1==1) then (none) else (bif (a0.1==2) then ((Ei F (volume_reader.mk a0.2.b)).bind λa6=>(Am F (volume_reader.mk a6.2.b)).bind λaB=>exc aB (λaH=>none) λa7=>(C2 F (volume_reader.mk a7.2.b)).bind λa3=>(C2 F (volume_reader.mk a3.2.b)).bind λa4=>(Am F (volume_reader.mk a4.2.b)).bind λaC=>exc aC (λaI=>none) λa5=>(Am F (volume_reader.mk a5.2.b)).bind λaD=>exc aD (λaJ=>none) λa1=>(Am F (volume_reader.mk a1.2.b)).bind λaE=>exc aE (λaK=>none) λa2=>(Dh F (api_Grid.mk a3.1 a4.1 a5.1 a1.1 a2.1)).bind λaF=>(P2 F aF).bind λaL=>(ck (a1.1*a2.1)).bind λa9=>(Ct F (volume_reader.mk a2.2.b) a9 (api_Span.mk 0 0)).bind λa8=>some ((volume_thing.ic142 (volume_field.mk a6.1 a7.1 (api_Field.mk (api_Grid.mk a3.1 a4.1 a5.1 a1.1 a2.1) a8.1))),(volume_reader.mk a8.2.b))) else (bif (a0.1==3) then (none) else (J4 a0.2.b)))
def Qb (F:Nat) (p0:volume_thing):Option Int:=p0.cs none (λy=>Dj F y)
def Ff (F:Nat) (p0:(List Int)):Option (volume_thing×Int):=(Bm F (volume_reader.mk p0)).bind λy7=>(gd (((!y7.2.1)==false&&true)) (ck (y7.1+5)) 0).bind λa4=>bif (bif (!y7.2.1) then true else ((y7.2.2.b.length:Int) != a4)) then (some (volume_thing.nil_,15)) else ((ck ((p0.length:Int)-5)).bind λa5=>(K4 p0 a5 (p0.length:Int)).bind λa1=>(ck ((p0.length:Int)-5)).bind λa6=>(K4 p0 (0:Int) a6).bind λa2=>(Lz F a2).bind λa7=>bif (!(H3 a1 a7)) then (some (volume_thing.nil_,15)) else ((K4 y7.2.2.b (0:Int) y7.1).bind λa3=>(Fi F (volume_reader.mk a3)).bind λa0=>(Qb F a0.1).bind λa8=>(P2 F a8).bind λa9=>bif (decide ((a0.2.b.length:Int)>0)) then (none) else (some (a0.1,0))))
def Kv (F:Nat) (p0:(List Int)) (a1:Bool):Option Bool:=(Bm F (volume_reader.mk p0)).bind λa0=>(gd ((a0.2.1==true&&(a1==false&&true))) (ck (a0.1+5)) 0).bind λa2=>some (bif a1 then true else (bif a0.2.1 then (decide ((a0.2.2.b.length:Int)<a2)) else false))
def Mv (F:Nat) (p0:(List Int)) (k2:(Int->Bool->Option Bool)) (a0:Int) (a1:Bool):Option Bool:=bif (decide (a0<(p0.length:Int))) then ((Cj p0 a0).bind λa2=>(ck (a0+1)).bind λa3=>k2 a3 (bif (bif a1 then (decide (a2>=128)) else false) then (decide (a2<=254)) else false)) else (Kv F p0 a1)
def J8 (F:Nat) (p0:(List Int)):Nat->Int->Bool->Option Bool
  | 0,_,_=>none
  | n+1,a1,a0=>Mv F p0 (J8 F p0 n) a1 a0
def Ku (F:Nat) (p0:(List Int)):Option Bool:=J8 F p0 F 0 true
def Ki (F:Nat) (p0:volume_thing):Option volume_Item:=p0.cs none (λy=>some (At y))
def Fk (a0:(List volume_Item)) (a1:Int) (a2:Int):Option ((List volume_Item)×Int×Int):=bif (decide ((a0.length:Int)>1000)) then (none) else (some (a0,a1,a2))
def Fl (F:Nat) (p0:(List Int)) (s_r:((List volume_Item)×Int×Int×Nat)) (x_:(Int×(List Int))):Option (((List volume_Item)×Int×Int×Nat)×Bool):=(Ff F x_.2).bind λa0=>bif (a0.2 != 0) then ((ck (x_.1+1)).bind λa3=>(ck (a3+(x_.2.length:Int))).bind λa1=>(gd (((a1==(p0.length:Int))==true&&true)) (Ku F x_.2) default).bind λa4=>bif (bif (a1==(p0.length:Int)) then a4 else false) then (some ((s_r.1,x_.1,16,3),false)) else (some ((s_r.1,x_.1,a0.2,3),false))) else ((Ki F a0.1).bind λa5=>(apd 224 s_r.1 ([a5])).bind λa2=>some ((a2,s_r.2.1,s_r.2.2.1,0),true))
def Kr (tg_:Nat):Code:=(bif (tg_==3) then .exit 1 else .ret)
def Jb (F:Nat) (p0:(List Int)):Option ((List volume_Item)×Int×Int):=bif (decide ((p0.length:Int)>16777216)) then (none) else ((Js F p0 ([82,86,70,49])).bind λy9=>(gd (((decide ((p0.length:Int)>4))==true&&((!y9)==false&&true))) (Cj p0 4) default).bind λa1=>bif (bif (!y9) then true else (bif (decide ((p0.length:Int)>4)) then (a1 != 0) else false)) then (none) else ((Dz F p0 (Fl F p0) (([]:List volume_Item),(p0.length:Int),0,0)).bind λa0=>bif a0.2 then (Fk a0.1.1 a0.1.2.1 a0.1.2.2.1) else (bif (a0.1.2.2.2==3) then (Fk a0.1.1 a0.1.2.1 a0.1.2.2.1) else (none))))
def Mt (p0:volume_field):Int:=p0.time
def Mu (F:Nat) (p0:volume_thing):Option Int:=p0.cs none (λy=>some (Mt y))
def Kq (a1:(List volume_entry)) (a0:(List Int)):Option ((List Int)×Int):=bif (decide ((a1.length:Int)>1000)) then (none) else (bif (decide ((a0.length:Int)>16777216)) then (none) else (some (a0,0)))
def Mn (a1:(List volume_entry)) (k3:((List Int)->Int->Option ((List Int)×Int))) (a2:(List Int)) (a0:Int):Option ((List Int)×Int):=bif (decide (a0<(a1.length:Int))) then ((Cj a1 a0).bind λa4=>(apd 1 a2 a4.block).bind λa3=>(ck (a0+1)).bind λa5=>k3 a3 a5) else (Kq a1 a2)
def Gf (a0:(List volume_entry)):Nat->(List Int)->Int->Option ((List Int)×Int)
  | 0,_,_=>none
  | n+1,a1,a2=>Mn a0 (Gf a0 n) a1 a2
def Kp (F:Nat) (a0:(List volume_entry)):Option ((List Int)×Int):=(L6 F a0).bind λa1=>(Ht F a1).bind λa2=>Gf a2 F ([82,86,70,49]) 0
def J7 (a1:Int) (k4:(Int->(List volume_entry)->Option ((List Int)×Int))) (a0:(List volume_entry)):Option ((List Int)×Int):=(ck (a1+1)).bind λa2=>k4 a2 a0
def Mp (F:Nat) (a6:Int) (k4:(Int->(List volume_entry)->Option ((List Int)×Int))) (a2:((List volume_Item)×Int×Int)) (k6:(Int->(List volume_entry)->Option ((List Int)×Int))) (a0:Int) (a1:(List volume_entry)):Option ((List Int)×Int):=bif (decide (a0<(a2.1.length:Int))) then ((Cj a2.1 a0).bind λa5=>(Ni F a5).bind λa3=>(Mu F a3).bind λa8=>(Hc F a3).bind λa9=>(apd 32 a1 ([(volume_entry.mk a8 a9)])).bind λa4=>(ck (a0+1)).bind λa7=>k6 a7 a4) else (J7 a6 k4 a1)
def Fj (F:Nat) (a0:Int) (k4:(Int->(List volume_entry)->Option ((List Int)×Int))) (a1:((List volume_Item)×Int×Int)):Nat->Int->(List volume_entry)->Option ((List Int)×Int)
  | 0,_,_=>none
  | n+1,a3,a2=>Mp F a0 k4 a1 (Fj F a0 k4 a1 n) a3 a2
def J6 (F:Nat) (p0:(List Int)) (p1:(List Int)) (k4:(Int->(List volume_entry)->Option ((List Int)×Int))) (a0:Int) (a1:(List volume_entry)):Option ((List Int)×Int):=bif (decide (a0<((2:Nat):Int))) then ((Cj ([p0,p1]) a0).bind λa3=>(Jb F a3).bind λa2=>bif (a2.2.2 != 0) then (none) else (Fj F a0 k4 a2 F 0 a1)) else (Kp F a1)
def Gg (F:Nat) (p0:(List Int)) (p1:(List Int)):Nat->Int->(List volume_entry)->Option ((List Int)×Int)
  | 0,_,_=>none
  | n+1,a1,a0=>J6 F p0 p1 (Gg F p0 p1 n) a1 a0
def Ja (F:Nat) (p0:(List Int)) (p1:(List Int)):Option ((List Int)×Int):=Gg F p0 p1 F 0 ([])
def Dx (p0:api_Span) (p1:Int) (p2:Int):Bool:=bif (bif (decide (p1<=p0.Lo)) then (decide (p0.Lo<=p0.Hi)) else false) then (decide (p0.Hi<=p2)) else false
def D5 (p0:Int) (p1:Int) (p2:Int):Bool:=bif (decide (p1<=p0)) then (decide (p0<=p2)) else false
def P6 (a0:(List (ByteArray×Bool))):Option Int:=some 0
def Ln (F:Nat) (p0:mosaic_Spec) (k2:((List (ByteArray×Bool))->Int->Option Int)) (a1:(List (ByteArray×Bool))) (a2:Int):Option Int:=bif (decide (a2<(p0.Radars.length:Int))) then ((Cj p0.Radars a2).bind λa0=>(beam_CheckSite F a0.Site).bind λa4=>bif (a4 != 0) then (none) else (bif ((lkM a1 a0.Site.Name).getD false) then (none) else (bif (!(Dx a0.Offset (-3600) 3600)) then (none) else ((ck (a2+1)).bind λa3=>k2 (upM a1 a0.Site.Name true) a3)))) else (P6 a1)
def Gt (F:Nat) (p0:mosaic_Spec):Nat->(List (ByteArray×Bool))->Int->Option Int
  | 0,_,_=>none
  | n+1,a0,a1=>Ln F p0 (Gt F p0 n) a0 a1
def Mi (F:Nat) (p0:mosaic_Spec):Option Int:=(Dh F p0.Grid).bind λy5=>bif (y5 != 0) then (none) else (bif (bif (!(Dx p0.Earth 1000000 100000000)) then true else (!(D5 p0.Age 1 86400))) then (none) else (bif ((p0.Radars.length:Int)==0) then (none) else (bif (decide ((p0.Radars.length:Int)>32)) then (none) else (Gt F p0 F ([]:List (ByteArray×Bool)) 0))))
def Bu (F:Nat) (p0:(List mosaic_Radar)):Option (List mosaic_Radar):=(apd 88 ([]:List mosaic_Radar) p0).bind λl5=>some l5
def Qu (p0:mosaic_Spec) (y7:(List mosaic_Radar)) (a0:(List (ByteArray×mosaic_Radar))):Option (mosaic_Node×Int):=some ((mosaic_Node.mk (mosaic_Spec.mk p0.Grid p0.Earth y7 p0.Age) a0 0 ([]:List (mosaic_Key×(List (List api_Span)))) 0 ([]:List (mosaic_where×(List api_Span)))),0)
def Nn (p0:mosaic_Spec) (y7:(List mosaic_Radar)) (k2:((List (ByteArray×mosaic_Radar))->Int->Option (mosaic_Node×Int))) (a1:(List (ByteArray×mosaic_Radar))) (a0:Int):Option (mosaic_Node×Int):=bif (decide (a0<(y7.length:Int))) then ((Cj y7 a0).bind λa2=>(ck (a0+1)).bind λa3=>k2 (upM a1 a2.Site.Name a2) a3) else (Qu p0 y7 a1)
def K0 (p0:mosaic_Spec) (y7:(List mosaic_Radar)):Nat->(List (ByteArray×mosaic_Radar))->Int->Option (mosaic_Node×Int)
  | 0,_,_=>none
  | n+1,a0,a1=>Nn p0 y7 (K0 p0 y7 n) a0 a1
def Er (F:Nat) (p0:mosaic_Spec):Option (mosaic_Node×Int):=(Mi F p0).bind λy5=>bif (y5 != 0) then (none) else ((Bu F p0.Radars).bind λy7=>K0 p0 y7 F ([]:List (ByteArray×mosaic_Radar)) 0)
def Bt (F:Nat) (p0:mosaic_Node):Option Bool:=some false
def Qt:Option Int:=some 0
def Nk (p0:(List Int)) (k2:(Int->Option Int)) (a0:Int):Option Int:=bif (decide (a0<(p0.length:Int))) then ((Cj p0 a0).bind λa1=>bif (a1 != 0) then (some a1) else ((ck (a0+1)).bind λa2=>k2 a2)) else (Qt)
def Jy (p0:(List Int)):Nat->Int->Option Int
  | 0,_=>none
  | n+1,a0=>Nk p0 (Jy p0 n) a0
def Pt (F:Nat) (p0:(List Int)):Option Int:=Jy p0 F 0
def Dw (p0:Int):Bool:=p0 != p0
def Ai (p0:Int) (p1:Int):Int:=bif (Dw p0) then (bif (Dw p1) then (0) else (-1)) else (bif (Dw p1) then (1) else (bif (decide (p0<p1)) then (-1) else (bif (decide (p0>p1)) then (1) else (0))))
def J1 (F:Nat) (p0:api_Span) (p1:api_Span):Option Int:=(Pt F ([(Ai p0.Lo p1.Lo),(Ai p0.Hi p1.Hi)])).bind λy4=>some y4
def Ay (p0:(List api_Span)) (p1:(List api_Span)):Option Int:=bif (decide ((p0.length:Int)<(p1.length:Int))) then (some (-1)) else (some 0)
def Ax (F:Nat) (p0:(List api_Span)) (p1:(List api_Span)) (k2:(Int->Option Int)) (a0:Int):Option Int:=bif (decide (a0<(p0.length:Int))) then ((Cj p0 a0).bind λa2=>bif (decide (a0>=(p1.length:Int))) then (some 1) else ((Cj p1 a0).bind λa3=>(J1 F a2 a3).bind λa1=>bif (a1 != 0) then (some a1) else ((ck (a0+1)).bind λa4=>k2 a4))) else (Ay p0 p1)
def Ah (F:Nat) (p0:(List api_Span)) (p1:(List api_Span)):Nat->Int->Option Int
  | 0,_=>none
  | n+1,a0=>Ax F p0 p1 (Ah F p0 p1 n) a0
def B1 (F:Nat) (p0:(List api_Span)) (p1:(List api_Span)):Option Int:=Ah F p0 p1 F 0
def J0 (F:Nat) (p0:(List api_Span)) (p1:(List api_Span)):Option Int:=(B1 F p0 p1).bind λy8=>some y8
def B5 (F:Nat) (p0:(List (List api_Span))) (p1:(List api_Span)) (a0:Int):Option (Int×Bool):=bif (decide (a0<(p0.length:Int))) then ((Cj p0 a0).bind λa1=>(J0 F a1 p1).bind λa2=>some (a0,a2==0)) else (some (a0,false))
def B4 (F:Nat) (p0:(List (List api_Span))) (p1:(List api_Span)) (k2:(Int->Int->Option (Int×Bool))) (a1:Int) (a0:Int):Option (Int×Bool):=bif (decide (a0<a1)) then ((ck (a0+a1)).bind λa4=>(ck (Int.fdiv (IntKind.u64.wrap a4) 2)).bind λa2=>(Cj p0 a2).bind λa3=>(J0 F a3 p1).bind λa6=>bif (decide (a6<0)) then ((ck (a2+1)).bind λa5=>k2 a1 a5) else (k2 a2 a0)) else (B5 F p0 p1 a0)
def Aj (F:Nat) (p0:(List (List api_Span))) (p1:(List api_Span)):Nat->Int->Int->Option (Int×Bool)
  | 0,_,_=>none
  | n+1,a0,a1=>B4 F p0 p1 (Aj F p0 p1 n) a0 a1
def Be (F:Nat) (p0:(List (List api_Span))) (p1:(List api_Span)):Option (Int×Bool):=Aj F p0 p1 F (p0.length:Int) 0
def Cz (F:Nat) (p0:mosaic_Node) (p1:mosaic_Message):Option (Int×Bool):=(Be F ((lkM p0.kept p1.Key).getD []) p1.Vals).bind λa0=>some (a0.1,a0.2)
def Bn (F:Nat) (p0:(List api_Span)):Option (List api_Span):=(apd 16 ([]:List api_Span) p0).bind λl5=>some l5
def Cn (F:Nat) (p0:(List (List api_Span))):Option (List (List api_Span)):=(apd 24 ([]:List (List api_Span)) p0).bind λl7=>some l7
def G3 (F:Nat) (p0:mosaic_Node) (p1:mosaic_Message):Option mosaic_Node:=(Cz F p0 p1).bind λa1=>(Cn F ((lkM p0.kept p1.Key).getD [])).bind λa2=>(Bn F p1.Vals).bind λa3=>(Mk F a2 a1.1 ([a3])).bind λa4=>(ck (p0.count+1)).bind λa0=>some (mosaic_Node.mk p0.spec p0.radars p0.horizon (upM p0.kept p1.Key a4) a0 p0.looks)
def K8:Option Int:=some 0
def Gl (p1:mosaic_Message) (k2:(Int->Option Int)) (a0:Int):Option Int:=bif (decide (a0<(p1.Vals.length:Int))) then ((Cj p1.Vals a0).bind λa1=>bif (!(Dx a1 0 1000000)) then (none) else ((ck (a0+1)).bind λa2=>k2 a2)) else (K8)
def Dv (p1:mosaic_Message):Nat->Int->Option Int
  | 0,_=>none
  | n+1,a0=>Gl p1 (Dv p1 n) a0
def Gc (F:Nat) (p0:mosaic_Node) (p1:mosaic_Message):Option Int:=bif (!((lkM p0.radars p1.Key.Name).isSome)) then (none) else (bif (bif (!(D5 p1.Key.Tilt 0 256)) then true else (!(D5 p1.Key.Time 0 4294967296))) then (none) else ((ck (p0.spec.Grid.Wide*p0.spec.Grid.High)).bind λa0=>bif ((p1.Vals.length:Int) != a0) then (none) else (Dv p1 F 0)))
def Bj (F:Nat) (p0:mosaic_Node) (p1:mosaic_Message):Option (Bool×Int×mosaic_Node):=(Bt F p0).bind λa0=>bif a0 then (none) else ((Gc F p0 p1).bind λa1=>bif (a1 != 0) then (none) else (bif (decide (p1.Key.Time<p0.horizon)) then (none) else ((Cz F p0 p1).bind λa2=>bif a2.2 then (some (false,0,p0)) else (bif (decide (p0.count>=256)) then (none) else ((G3 F p0 p1).bind λa3=>some (true,0,a3))))))
def Mm (a4:Int) (a5:Int) (a6:Int) (a7:Int) (a8:Int) (a9:Int) (aA:Int) (aB:Int) (aC:Int) (a0:(List mosaic_Radar)) (aD:Int) (a1:(List (ByteArray×mosaic_Radar))) (a2:(List (mosaic_Key×(List (List api_Span))))) (a3:(List (mosaic_where×(List api_Span)))):Option (Bool×mosaic_Node):=some (true,(mosaic_Node.mk (mosaic_Spec.mk (api_Grid.mk a4 a5 a8 a9 aA) (api_Span.mk aB aC) a0 aD) a1 a6 a2 a7 a3))
def Kh (F:Nat) (a2:((List volume_Item)×Int×Int)) (k2:(Int->Int->Int->Int->Int->Int->Int->Int->Int->(List mosaic_Radar)->Int->(List (ByteArray×mosaic_Radar))->(List (mosaic_Key×(List (List api_Span))))->(List (mosaic_where×(List api_Span)))->Int->Option (Bool×mosaic_Node))) (a7:Int) (a8:Int) (a9:Int) (aA:Int) (aB:Int) (aC:Int) (aD:Int) (aE:Int) (aF:Int) (a3:(List mosaic_Radar)) (aG:Int) (a4:(List (ByteArray×mosaic_Radar))) (a5:(List (mosaic_Key×(List (List api_Span))))) (a6:(List (mosaic_where×(List api_Span)))) (a1:Int):Option (Bool×mosaic_Node):=bif (decide (a1<(a2.1.length:Int))) then ((Cj a2.1 a1).bind λaH=>(Cj a2.1 a1).bind λaI=>(Cj a2.1 a1).bind λaJ=>(Bj F (mosaic_Node.mk (mosaic_Spec.mk (api_Grid.mk a7 a8 aB aC aD) (api_Span.mk aE aF) a3 aG) a4 a9 a5 aA a6) (mosaic_Message.mk (mosaic_Key.mk aH.Name 0 aI.Time) aJ.Field.Vals)).bind λa0=>bif (a0.2.1 != 0) then (none) else ((ck (a1+1)).bind λaK=>k2 a0.2.2.spec.Grid.X a0.2.2.spec.Grid.Y a0.2.2.horizon a0.2.2.count a0.2.2.spec.Grid.Size a0.2.2.spec.Grid.Wide a0.2.2.spec.Grid.High a0.2.2.spec.Earth.Lo a0.2.2.spec.Earth.Hi a0.2.2.spec.Radars a0.2.2.spec.Age a0.2.2.radars a0.2.2.kept a0.2.2.looks aK)) else (Mm a7 a8 a9 aA aB aC aD aE aF a3 aG a4 a5 a6)
def Fo (F:Nat) (a0:((List volume_Item)×Int×Int)):Nat->Int->Int->Int->Int->Int->Int->Int->Int->Int->(List mosaic_Radar)->Int->(List (ByteArray×mosaic_Radar))->(List (mosaic_Key×(List (List api_Span))))->(List (mosaic_where×(List api_Span)))->Int->Option (Bool×mosaic_Node)
  | 0,_,_,_,_,_,_,_,_,_,_,_,_,_,_,_=>none
  | n+1,a5,a6,a7,a8,a9,aA,aB,aC,aD,a1,aE,a2,a3,a4,aF=>Kh F a0 (Fo F a0 n) a5 a6 a7 a8 a9 aA aB aC aD a1 aE a2 a3 a4 aF
def Ci (F:Nat) (p0:mosaic_Node) (p1:(List Int)):Option (Bool×mosaic_Node):=(Jb F p1).bind λa0=>bif (a0.2.2 != 0) then (none) else (Fo F a0 F p0.spec.Grid.X p0.spec.Grid.Y p0.horizon p0.count p0.spec.Grid.Size p0.spec.Grid.Wide p0.spec.Grid.High p0.spec.Earth.Lo p0.spec.Earth.Hi p0.spec.Radars p0.spec.Age p0.radars p0.kept p0.looks 0)
def Gb (F:Nat) (p0:mosaic_Node) (p1:Int):Option Int:=(Bt F p0).bind λa0=>bif a0 then (none) else (bif (!(D5 p1 0 4294967296)) then (none) else (bif (decide (p1<p0.horizon)) then (none) else (some 0)))
def Cq (p0:ByteArray):Bool:=!(sEq p0 p0)
def Ck (p0:ByteArray) (p1:ByteArray):Int:=bif (Cq p0) then (bif (Cq p1) then (0) else (-1)) else (bif (Cq p1) then (1) else (bif (Wt p0 p1) then (-1) else (bif (Vy p0 p1) then (1) else (0))))
def Fx (F:Nat) (p0:Int):Option beam_slant:=(ck (p0*p0)).bind λx2=>(ck (262144-x2)).bind λx3=>(ck (1024*p0)).bind λx4=>(ck (p0*p0)).bind λx5=>(ck (262144+x5)).bind λx6=>some (beam_slant.mk x3 x4 x6)
def Kk (F:Nat) (p0:Int) (c0_:api_Site) (c1_:beam_slant):Option Int:=(ck (p0*c0_.Step)).bind λx1=>(ck (x1*c1_.c)).bind λx2=>(Mc x2 c1_.d).bind λx3=>some x3
def Ro (a0:Int):Option Int:=some a0
def Pf (F:Nat) (p0:api_Site) (p2:Int) (y2:beam_slant) (k2:(Int->Int->Option Int)) (a0:Int) (a2:Int):Option Int:=(ck (a2-a0)).bind λa3=>bif (decide (a3>1)) then ((ck (a0+a2)).bind λa4=>(Mc a4 2).bind λa1=>(Kk F a1 p0 y2).bind λa6=>(Kk F a1 p0 y2).bind λa7=>(ck (a6*a7)).bind λa5=>bif (decide (a5<=p2)) then (k2 a1 a2) else (k2 a0 a1)) else (Ro a0)
def Kx (F:Nat) (p0:api_Site) (p2:Int) (y2:beam_slant):Nat->Int->Int->Option Int
  | 0,_,_=>none
  | n+1,a0,a1=>Pf F p0 p2 y2 (Kx F p0 p2 y2 n) a0 a1
def R1 (F:Nat) (p0:api_Site) (p1:Int) (p2:Int):Option Int:=(Fx F p1).bind λy2=>(Kk F p0.Gates p0 y2).bind λy4=>(ck (y4*y4)).bind λx5=>bif (decide (p2>=x5)) then (some (-1)) else (Kx F p0 p2 y2 F 0 p0.Gates)
def Kj (F:Nat) (p0:Int) (p1:Int):Option beam_vector:=(J9 p1 p0).bind λx2=>(ck (2*p0)).bind λx3=>(ck (x3*x2)).bind λx4=>(ck (p0*p0)).bind λx5=>(ck (x2*x2)).bind λx6=>(ck (x5-x6)).bind λx7=>(ck (p0*p0)).bind λx8=>(ck (x2*x2)).bind λx9=>(ck (x8+x9)).bind λa0=>(Mc p1 p0).bind λa1=>bif (a1==0) then (some (beam_vector.mk x4 x7 a0)) else (bif (a1==1) then (bif (a1==0) then (some (beam_vector.mk x4 x7 a0)) else (some (beam_vector.mk x7 (IntKind.i64.wrap (0-x4)) a0))) else (bif (a1==0) then (some (beam_vector.mk x4 x7 a0)) else (bif (a1==2) then (bif (a1==0) then (some (beam_vector.mk x4 x7 a0)) else (some (beam_vector.mk (IntKind.i64.wrap (0-x4)) (IntKind.i64.wrap (0-x7)) a0))) else (bif (a1==0) then (some (beam_vector.mk x4 x7 a0)) else (bif (a1==3) then (bif (a1==0) then (some (beam_vector.mk x4 x7 a0)) else (some (beam_vector.mk (IntKind.i64.wrap (0-x7)) x4 a0))) else (bif (a1==0) then (some (beam_vector.mk x4 x7 a0)) else (none)))))))
def Kb (F:Nat) (p0:beam_vector) (p1:Int) (p2:Int):Option Bool:=(ck (p0.y*p1)).bind λx2=>(ck (p0.x*p2)).bind λx3=>some (decide (x2>=x3))
def Qi (p0:Int) (a0:Int) (a1:Int):Option Int:=(ck (a0*p0)).bind λa2=>(ck (a2+a1)).bind λa3=>some a3
def Qg (F:Nat) (p0:Int) (a3:Int) (a4:Int) (a5:Int) (k3:(Int->Int->Option Int)) (a0:Int) (a1:Int):Option Int:=(ck (a1-a0)).bind λa6=>bif (decide (a6>1)) then ((ck (a0+a1)).bind λa7=>(Mc a7 2).bind λa2=>(Kj F p0 a2).bind λa8=>(Kb F a8 a3 a4).bind λa9=>bif a9 then (k3 a2 a1) else (k3 a0 a2)) else (Qi p0 a5 a0)
def M5 (F:Nat) (p0:Int) (a0:Int) (a1:Int) (a2:Int):Nat->Int->Int->Option Int
  | 0,_,_=>none
  | n+1,a3,a4=>Qg F p0 a0 a1 a2 (M5 F p0 a0 a1 a2 n) a3 a4
def Qh (F:Nat) (p0:Int) (a0:Int) (a1:Int) (a2:Int):Option Int:=M5 F p0 a0 a1 a2 F 0 p0
def Nr (F:Nat) (p0:Int) (k4:(Int->Int->Int->Option Int)) (a0:Int) (a1:Int) (a2:Int):Option Int:=bif (bif (decide (a0<0)) then true else (decide (a1<=0))) then ((ck (a2+1)).bind λa3=>k4 (IntKind.i64.wrap (0-a1)) a0 a3) else (Qh F p0 a0 a1 a2)
def Gy (F:Nat) (p0:Int):Nat->Int->Int->Int->Option Int
  | 0,_,_,_=>none
  | n+1,a0,a1,a2=>Nr F p0 (Gy F p0 n) a0 a1 a2
def Su (F:Nat) (p0:Int) (p1:Int) (p2:Int):Option Int:=Gy F p0 F p1 p2 0
def R0 (F:Nat) (p0:api_Site) (p1:Int) (p2:Int) (p3:Int):Option (Int×Int×Bool):=(ck (p2-p0.X)).bind λx2=>(ck (p3-p0.Y)).bind λx3=>bif (bif (x2==0) then (x3==0) else false) then (some (0,0,true)) else ((ck (x2*x2)).bind λx4=>(ck (x3*x3)).bind λx5=>(ck (x4+x5)).bind λx6=>(R1 F p0 p1 x6).bind λy7=>bif (decide (y7<0)) then (some (0,0,false)) else ((Su F p0.Rose x2 x3).bind λy8=>some (y8,y7,true)))
def Rl (a0:(List Int)):Option ((List Int)×Int):=some (a0,0)
def Pe (a1:Int) (k2:((List Int)->Int->Option ((List Int)×Int))) (a0:(List Int)):Option ((List Int)×Int):=(ck (a1+1)).bind λa2=>k2 a0 a2
def Kw (a0:(List Int)) (a2:Int) (k4:((List Int)->Int->Option ((List Int)×Int))) (a3:Int):Option ((List Int)×Int):=(apd 8 a0 ([a3])).bind λa1=>(ck (a2+1)).bind λa4=>k4 a1 a4
def Pd (F:Nat) (p0:api_Site) (p1:Int) (p2:api_Grid) (a3:Int) (k2:((List Int)->Int->Option ((List Int)×Int))) (k4:((List Int)->Int->Option ((List Int)×Int))) (a1:(List Int)) (a0:Int):Option ((List Int)×Int):=bif (decide (a0<p2.Wide)) then ((ck (a0*p2.Size)).bind λa4=>(ck (p2.X+a4)).bind λa5=>(Mc p2.Size 2).bind λa6=>(ck (a5+a6)).bind λa7=>(ck (a3*p2.Size)).bind λa8=>(ck (p2.Y+a8)).bind λa9=>(Mc p2.Size 2).bind λaA=>(ck (a9+aA)).bind λaB=>(R0 F p0 p1 a7 aB).bind λa2=>bif a2.2.2 then ((ck (a2.1*p0.Gates)).bind λaC=>(ck (aC+a2.2.1)).bind λaD=>Kw a1 a0 k4 aD) else (Kw a1 a0 k4 (-1))) else (Pe a3 k2 a1)
def Jd (F:Nat) (p0:api_Site) (p1:Int) (p2:api_Grid) (a0:Int) (k2:((List Int)->Int->Option ((List Int)×Int))):Nat->(List Int)->Int->Option ((List Int)×Int)
  | 0,_,_=>none
  | n+1,a1,a2=>Pd F p0 p1 p2 a0 k2 (Jd F p0 p1 p2 a0 k2 n) a1 a2
def Pc (F:Nat) (p0:api_Site) (p1:Int) (p2:api_Grid) (k2:((List Int)->Int->Option ((List Int)×Int))) (a0:(List Int)) (a1:Int):Option ((List Int)×Int):=bif (decide (a1<p2.High)) then (Jd F p0 p1 p2 a1 k2 F a0 0) else (Rl a0)
def Jc (F:Nat) (p0:api_Site) (p1:Int) (p2:api_Grid):Nat->(List Int)->Int->Option ((List Int)×Int)
  | 0,_,_=>none
  | n+1,a0,a1=>Pc F p0 p1 p2 (Jc F p0 p1 p2 n) a0 a1
def My (F:Nat) (p0:api_Site) (p1:Int) (p2:api_Grid):Option ((List Int)×Int):=(beam_CheckSite F p0).bind λy3=>bif (y3 != 0) then (none) else ((Dh F p2).bind λy4=>bif (y4 != 0) then (none) else (bif (!(Af p1 0 256)) then (none) else ((ck (p2.Wide*p2.High)).bind λx5=>(mk0 8 x5).bind λc7=>Jc F p0 p1 p2 F ([]:List Int) 0)))
def He (p0:api_Span):Bool:=bif (bif (decide (1000000<=p0.Lo)) then (decide (p0.Lo<=p0.Hi)) else false) then (decide (p0.Hi<=100000000)) else false
def Mz (F:Nat) (p0:Int) (p1:Int):Option Int:=(Mc p0 p1).bind λx1=>(ck (x1*p1)).bind λx2=>bif (decide (x2>p0)) then ((ck (x1-1)).bind λx3=>some x3) else (some x1)
def Rr (F:Nat) (p0:Int) (p1:Int):Option Int:=(Mc p0 p1).bind λx1=>(ck (x1*p1)).bind λx2=>bif (decide (x2<p0)) then ((ck (x1+1)).bind λx3=>some x3) else (some x1)
def Hu (F:Nat) (p0:api_Site) (p1:Int) (p2:Int):Option Int:=(Fx F p1).bind λy2=>(ck (2*p2)).bind λx4=>(ck (x4+1)).bind λx5=>(ck (x5*p0.Step)).bind λx6=>(ck (x6*y2.c)).bind λx7=>(ck (2*y2.d)).bind λx8=>(Mz F x7 x8).bind λy9=>some y9
def Jp (F:Nat) (p0:api_Site) (p1:Int) (p2:Int) (p3:Int):Option Int:=(Fx F p1).bind λy2=>(Hu F p0 p1 p2).bind λy5=>(ck (2*p2)).bind λx6=>(ck (x6+1)).bind λx7=>(ck (x7*p0.Step)).bind λx8=>(ck (x8*y2.s)).bind λx9=>(ck (2*y2.d)).bind λa0=>(ck (y5*y5)).bind λa1=>(ck (2*p3)).bind λa2=>(Mz F x9 a0).bind λa5=>(ck (p0.Z+a5)).bind λa3=>(Mz F a1 a2).bind λa6=>(ck (a3+a6)).bind λa4=>some a4
def Hv (F:Nat) (p0:api_Site) (p1:Int) (p2:Int):Option Int:=(Fx F p1).bind λy2=>(ck (2*p2)).bind λx4=>(ck (x4+1)).bind λx5=>(ck (x5*p0.Step)).bind λx6=>(ck (x6*y2.c)).bind λx7=>(ck (2*y2.d)).bind λx8=>(Rr F x7 x8).bind λy9=>some y9
def Jq (F:Nat) (p0:api_Site) (p1:Int) (p2:Int) (p3:Int):Option Int:=(Fx F p1).bind λy2=>(Hv F p0 p1 p2).bind λy5=>(ck (2*p2)).bind λx6=>(ck (x6+1)).bind λx7=>(ck (x7*p0.Step)).bind λx8=>(ck (x8*y2.s)).bind λx9=>(ck (2*y2.d)).bind λa0=>(ck (y5*y5)).bind λa1=>(ck (2*p3)).bind λa2=>(Rr F x9 a0).bind λa5=>(ck (p0.Z+a5)).bind λa3=>(Rr F a1 a2).bind λa6=>(ck (a3+a6)).bind λa4=>some a4
def Qz (F:Nat) (p0:api_Site) (p1:Int) (p2:api_Span) (p3:Int):Option (api_Span×Int):=(beam_CheckSite F p0).bind λy4=>bif (y4 != 0) then (none) else ((gd (((bif (!(Af p1 0 256)) then true else (!(He p2)))==false&&true)) (ck (p0.Gates-1)) 0).bind λx5=>bif (bif (bif (!(Af p1 0 256)) then true else (!(He p2))) then true else (!(Af p3 0 x5))) then (none) else ((ck (p1-p0.Width)).bind λx6=>(ck (p1+p0.Width)).bind λx7=>(Jp F p0 x6 p3 p2.Hi).bind λy9=>(Jq F p0 x7 p3 p2.Lo).bind λa0=>some ((api_Span.mk y9 a0),0)))
def Ha (p0:mosaic_Node) (p1:mosaic_Key) (a0:(List api_Span)):Option ((List api_Span)×(List (mosaic_where×(List api_Span)))):=some (a0,(upM p0.looks (mosaic_where.mk p1.Name p1.Tilt) a0))
def E6 (a0:(List api_Span)) (a2:Int) (k2:((List api_Span)->Int->Option ((List api_Span)×(List (mosaic_where×(List api_Span)))))) (a3:Int) (a4:Int):Option ((List api_Span)×(List (mosaic_where×(List api_Span)))):=(apd 16 a0 ([(api_Span.mk a3 a4)])).bind λa1=>(ck (a2+1)).bind λa5=>k2 a1 a5
def H9 (F:Nat) (p0:mosaic_Node) (p1:mosaic_Key) (a4:((List Int)×Int)) (k2:((List api_Span)->Int->Option ((List api_Span)×(List (mosaic_where×(List api_Span)))))) (a1:(List api_Span)) (a0:Int):Option ((List api_Span)×(List (mosaic_where×(List api_Span)))):=bif (decide (a0<(a4.1.length:Int))) then ((Cj a4.1 a0).bind λa2=>bif (decide (a2>=0)) then ((J9 a2 ((((lkM p0.radars p1.Name).getD (mosaic_Radar.mk (api_Site.mk ByteArray.empty 0 0 0 0 0 0 0) (api_Span.mk 0 0))).Site).Gates)).bind λa5=>(Qz F (api_Site.mk ((((lkM p0.radars p1.Name).getD (mosaic_Radar.mk (api_Site.mk ByteArray.empty 0 0 0 0 0 0 0) (api_Span.mk 0 0))).Site).Name) ((((lkM p0.radars p1.Name).getD (mosaic_Radar.mk (api_Site.mk ByteArray.empty 0 0 0 0 0 0 0) (api_Span.mk 0 0))).Site).X) ((((lkM p0.radars p1.Name).getD (mosaic_Radar.mk (api_Site.mk ByteArray.empty 0 0 0 0 0 0 0) (api_Span.mk 0 0))).Site).Y) ((((lkM p0.radars p1.Name).getD (mosaic_Radar.mk (api_Site.mk ByteArray.empty 0 0 0 0 0 0 0) (api_Span.mk 0 0))).Site).Z) ((((lkM p0.radars p1.Name).getD (mosaic_Radar.mk (api_Site.mk ByteArray.empty 0 0 0 0 0 0 0) (api_Span.mk 0 0))).Site).Rose) ((((lkM p0.radars p1.Name).getD (mosaic_Radar.mk (api_Site.mk ByteArray.empty 0 0 0 0 0 0 0) (api_Span.mk 0 0))).Site).Gates) ((((lkM p0.radars p1.Name).getD (mosaic_Radar.mk (api_Site.mk ByteArray.empty 0 0 0 0 0 0 0) (api_Span.mk 0 0))).Site).Step) ((((lkM p0.radars p1.Name).getD (mosaic_Radar.mk (api_Site.mk ByteArray.empty 0 0 0 0 0 0 0) (api_Span.mk 0 0))).Site).Width)) p1.Tilt p0.spec.Earth a5).bind λa3=>E6 a1 a0 k2 a3.1.Lo a3.1.Hi) else (E6 a1 a0 k2 1 0)) else (Ha p0 p1 a1)
def Di (F:Nat) (p0:mosaic_Node) (p1:mosaic_Key) (a0:((List Int)×Int)):Nat->(List api_Span)->Int->Option ((List api_Span)×(List (mosaic_where×(List api_Span))))
  | 0,_,_=>none
  | n+1,a1,a2=>H9 F p0 p1 a0 (Di F p0 p1 a0 n) a1 a2
def H8 (F:Nat) (p0:mosaic_Node) (p1:mosaic_Key):Option ((List api_Span)×(List (mosaic_where×(List api_Span)))):=bif ((lkM p0.looks (mosaic_where.mk p1.Name p1.Tilt)).isSome) then (some (((lkM p0.looks (mosaic_where.mk p1.Name p1.Tilt)).getD []),p0.looks)) else ((My F (api_Site.mk ((((lkM p0.radars p1.Name).getD (mosaic_Radar.mk (api_Site.mk ByteArray.empty 0 0 0 0 0 0 0) (api_Span.mk 0 0))).Site).Name) ((((lkM p0.radars p1.Name).getD (mosaic_Radar.mk (api_Site.mk ByteArray.empty 0 0 0 0 0 0 0) (api_Span.mk 0 0))).Site).X) ((((lkM p0.radars p1.Name).getD (mosaic_Radar.mk (api_Site.mk ByteArray.empty 0 0 0 0 0 0 0) (api_Span.mk 0 0))).Site).Y) ((((lkM p0.radars p1.Name).getD (mosaic_Radar.mk (api_Site.mk ByteArray.empty 0 0 0 0 0 0 0) (api_Span.mk 0 0))).Site).Z) ((((lkM p0.radars p1.Name).getD (mosaic_Radar.mk (api_Site.mk ByteArray.empty 0 0 0 0 0 0 0) (api_Span.mk 0 0))).Site).Rose) ((((lkM p0.radars p1.Name).getD (mosaic_Radar.mk (api_Site.mk ByteArray.empty 0 0 0 0 0 0 0) (api_Span.mk 0 0))).Site).Gates) ((((lkM p0.radars p1.Name).getD (mosaic_Radar.mk (api_Site.mk ByteArray.empty 0 0 0 0 0 0 0) (api_Span.mk 0 0))).Site).Step) ((((lkM p0.radars p1.Name).getD (mosaic_Radar.mk (api_Site.mk ByteArray.empty 0 0 0 0 0 0 0) (api_Span.mk 0 0))).Site).Width)) p1.Tilt p0.spec.Grid).bind λa0=>Di F p0 p1 a0 F ([]) 0)
def Jj (a0:(List (mosaic_where×(List api_Span)))) (a1:(List mosaic_used)):Option ((List mosaic_used)×(List (mosaic_where×(List api_Span)))):=some (a1,a0)
def Ex (a2:Int) (k3:((List (mosaic_where×(List api_Span)))->Int->(List mosaic_used)->Option ((List mosaic_used)×(List (mosaic_where×(List api_Span)))))) (a0:(List (mosaic_where×(List api_Span)))) (a1:(List mosaic_used)):Option ((List mosaic_used)×(List (mosaic_where×(List api_Span)))):=(ck (a2+1)).bind λa3=>k3 a0 a3 a1
def Jh (F:Nat) (p0:mosaic_Node) (a4:(List (mosaic_where×mosaic_Key))) (a5:(List mosaic_Key)) (k3:((List (mosaic_where×(List api_Span)))->Int->(List mosaic_used)->Option ((List mosaic_used)×(List (mosaic_where×(List api_Span)))))) (a2:(List (mosaic_where×(List api_Span)))) (a1:Int) (a3:(List mosaic_used)):Option ((List mosaic_used)×(List (mosaic_where×(List api_Span)))):=bif (decide (a1<(a5.length:Int))) then ((Cj a5 a1).bind λa0=>bif (((((lkM a4 (mosaic_where.mk a0.Name a0.Tilt)).getD (mosaic_Key.mk ByteArray.empty 0 0)).Name)==a0.Name)&&(((((lkM a4 (mosaic_where.mk a0.Name a0.Tilt)).getD (mosaic_Key.mk ByteArray.empty 0 0)).Tilt:Int)==a0.Tilt)&&(((((lkM a4 (mosaic_where.mk a0.Name a0.Tilt)).getD (mosaic_Key.mk ByteArray.empty 0 0)).Time:Int)==a0.Time)&&true))) then ((Cj ((lkM p0.kept a0).getD []) 0).bind λa8=>(H8 F (mosaic_Node.mk p0.spec p0.radars p0.horizon p0.kept p0.count a2) a0).bind λa6=>(apd 80 a3 ([(mosaic_used.mk a0 a8 a6.1)])).bind λa7=>Ex a1 k3 a6.2 a7) else (Ex a1 k3 a2 a3)) else (Jj a2 a3)
def E0 (F:Nat) (p0:mosaic_Node) (a0:(List (mosaic_where×mosaic_Key))) (a1:(List mosaic_Key)):Nat->(List (mosaic_where×(List api_Span)))->Int->(List mosaic_used)->Option ((List mosaic_used)×(List (mosaic_where×(List api_Span))))
  | 0,_,_,_=>none
  | n+1,a2,a4,a3=>Jh F p0 a0 a1 (E0 F p0 a0 a1 n) a2 a4 a3
def Ew (F:Nat) (p0:mosaic_Node) (a0:(List (mosaic_where×mosaic_Key))):Option ((List mosaic_used)×(List (mosaic_where×(List api_Span)))):=(Km F p0).bind λa1=>E0 F p0 a0 a1 F p0.looks 0 ([])
def Ey (a1:Int) (k5:((List (mosaic_where×mosaic_Key))->Int->Option ((List mosaic_used)×(List (mosaic_where×(List api_Span)))))) (a0:(List (mosaic_where×mosaic_Key))):Option ((List mosaic_used)×(List (mosaic_where×(List api_Span)))):=(ck (a1+1)).bind λa2=>k5 a0 a2
def Ji (F:Nat) (p0:mosaic_Node) (p1:Int) (a4:(List mosaic_Key)) (k5:((List (mosaic_where×mosaic_Key))->Int->Option ((List mosaic_used)×(List (mosaic_where×(List api_Span)))))) (a2:(List (mosaic_where×mosaic_Key))) (a1:Int):Option ((List mosaic_used)×(List (mosaic_where×(List api_Span)))):=bif (decide (a1<(a4.length:Int))) then ((Cj a4 a1).bind λa0=>(gd (((((((lkM p0.kept a0).getD []).length:Nat):Int)==1)==true&&true)) (ck (a0.Time+((((lkM p0.radars a0.Name).getD (mosaic_Radar.mk (api_Site.mk ByteArray.empty 0 0 0 0 0 0 0) (api_Span.mk 0 0))).Offset).Hi))) 0).bind λa3=>(gd (((bif (((((lkM p0.kept a0).getD []).length:Nat):Int)==1) then (decide (a3<=p1)) else false)==true&&true)) (ck (p1-a0.Time)) 0).bind λa5=>(gd (((bif (((((lkM p0.kept a0).getD []).length:Nat):Int)==1) then (decide (a3<=p1)) else false)==true&&true)) (ck (a5-((((lkM p0.radars a0.Name).getD (mosaic_Radar.mk (api_Site.mk ByteArray.empty 0 0 0 0 0 0 0) (api_Span.mk 0 0))).Offset).Lo))) 0).bind λa6=>bif (bif (bif (((((lkM p0.kept a0).getD []).length:Nat):Int)==1) then (decide (a3<=p1)) else false) then (decide (a6<=p0.spec.Age)) else false) then (Ey a1 k5 (upM a2 (mosaic_where.mk a0.Name a0.Tilt) a0)) else (Ey a1 k5 a2)) else (Ew F p0 a2)
def E2 (F:Nat) (p0:mosaic_Node) (p1:Int) (a0:(List mosaic_Key)):Nat->(List (mosaic_where×mosaic_Key))->Int->Option ((List mosaic_used)×(List (mosaic_where×(List api_Span))))
  | 0,_,_=>none
  | n+1,a1,a2=>Ji F p0 p1 a0 (E2 F p0 p1 a0 n) a1 a2
def Jt (F:Nat) (p0:mosaic_Node) (p1:Int):Option ((List mosaic_used)×(List (mosaic_where×(List api_Span)))):=(Km F p0).bind λa0=>E2 F p0 p1 a0 F ([]:List (mosaic_where×mosaic_Key)) 0
def Nu (p0:api_Span):Bool:=decide (p0.Lo<=p0.Hi)
def Hm (a1:((List mosaic_used)×(List (mosaic_where×(List api_Span))))) (a0:(List mosaic_Pixel)):Option ((List mosaic_Pixel)×Int×(List (mosaic_where×(List api_Span)))):=some (a0,0,a1.2)
def Ho (a1:Int) (k2:(Int->(List mosaic_Pixel)->Option ((List mosaic_Pixel)×Int×(List (mosaic_where×(List api_Span)))))) (a0:(List mosaic_Pixel)):Option ((List mosaic_Pixel)×Int×(List (mosaic_where×(List api_Span)))):=(ck (a1+1)).bind λa2=>k2 a2 a0
def Eg (a3:Int) (a0:(List mosaic_Pixel)) (k2:(Int->(List mosaic_Pixel)->Option ((List mosaic_Pixel)×Int×(List (mosaic_where×(List api_Span)))))) (a4:Int) (a5:Int) (a2:ByteArray) (a6:Int) (a7:Int):Option ((List mosaic_Pixel)×Int×(List (mosaic_where×(List api_Span)))):=(apd 48 a0 ([(mosaic_Pixel.mk (api_Span.mk a4 a5) (mosaic_Key.mk a2 a6 a7))])).bind λa1=>Ho a3 k2 a1
def Dp (a5:((List mosaic_used)×(List (mosaic_where×(List api_Span))))) (a1:Int) (a2:(List mosaic_Pixel)) (k2:(Int->(List mosaic_Pixel)->Option ((List mosaic_Pixel)×Int×(List (mosaic_where×(List api_Span)))))) (a4:Int):Option ((List mosaic_Pixel)×Int×(List (mosaic_where×(List api_Span)))):=bif (decide (a4<0)) then (Eg a1 a2 k2 0 1000000 ByteArray.empty 0 0) else ((Cj a5.1 a4).bind λa0=>(Cj a0.vals a1).bind λa3=>Eg a1 a2 k2 a3.Lo a3.Hi a0.Key.Name a0.Key.Tilt a0.Key.Time)
def Da (a0:Int) (k6:(Int->Int->Option ((List mosaic_Pixel)×Int×(List (mosaic_where×(List api_Span)))))) (a1:Int):Option ((List mosaic_Pixel)×Int×(List (mosaic_where×(List api_Span)))):=(ck (a0+1)).bind λa2=>k6 a1 a2
def Hl (F:Nat) (a5:((List mosaic_used)×(List (mosaic_where×(List api_Span))))) (a2:Int) (a6:(List mosaic_Pixel)) (k2:(Int->(List mosaic_Pixel)->Option ((List mosaic_Pixel)×Int×(List (mosaic_where×(List api_Span)))))) (k6:(Int->Int->Option ((List mosaic_Pixel)×Int×(List (mosaic_where×(List api_Span)))))) (a4:Int) (a0:Int):Option ((List mosaic_Pixel)×Int×(List (mosaic_where×(List api_Span)))):=bif (decide (a0<(a5.1.length:Int))) then ((Cj a5.1 a0).bind λa1=>(Cj a1.bands a2).bind λa7=>bif (!(Nu a7)) then (Da a0 k6 a4) else (bif (decide (a4<0)) then (Da a0 k6 a0) else ((Cj a5.1 a4).bind λa3=>(Cj a1.bands a2).bind λa8=>(Cj a3.bands a2).bind λa9=>(Cj a1.bands a2).bind λaA=>(Cj a3.bands a2).bind λaB=>(Pt F ([(Ai a8.Hi a9.Hi),(Ai aA.Lo aB.Lo),(Ai a3.Key.Time a1.Key.Time),(Ck a1.Key.Name a3.Key.Name),(Ai a1.Key.Tilt a3.Key.Tilt)])).bind λaC=>bif (decide (aC<0)) then (Da a0 k6 a0) else (Da a0 k6 a4)))) else (Dp a5 a2 a6 k2 a4)
def Db (F:Nat) (a2:((List mosaic_used)×(List (mosaic_where×(List api_Span))))) (a1:Int) (a0:(List mosaic_Pixel)) (k2:(Int->(List mosaic_Pixel)->Option ((List mosaic_Pixel)×Int×(List (mosaic_where×(List api_Span)))))):Nat->Int->Int->Option ((List mosaic_Pixel)×Int×(List (mosaic_where×(List api_Span))))
  | 0,_,_=>none
  | n+1,a3,a4=>Hl F a2 a1 a0 k2 (Db F a2 a1 a0 k2 n) a3 a4
def Hk (F:Nat) (a2:((List mosaic_used)×(List (mosaic_where×(List api_Span))))) (a3:Int) (k2:(Int->(List mosaic_Pixel)->Option ((List mosaic_Pixel)×Int×(List (mosaic_where×(List api_Span)))))) (a1:Int) (a0:(List mosaic_Pixel)):Option ((List mosaic_Pixel)×Int×(List (mosaic_where×(List api_Span)))):=bif (decide (a1<a3)) then (Db F a2 a1 a0 k2 F (-1) 0) else (Hm a2 a0)
def Ca (F:Nat) (a1:((List mosaic_used)×(List (mosaic_where×(List api_Span))))) (a0:Int):Nat->Int->(List mosaic_Pixel)->Option ((List mosaic_Pixel)×Int×(List (mosaic_where×(List api_Span))))
  | 0,_,_=>none
  | n+1,a3,a2=>Hk F a1 a0 (Ca F a1 a0 n) a3 a2
def D6 (F:Nat) (p0:mosaic_Node) (p1:Int):Option ((List mosaic_Pixel)×Int×(List (mosaic_where×(List api_Span)))):=(Gb F p0 p1).bind λa1=>bif (a1 != 0) then (none) else ((Jt F p0 p1).bind λa2=>(ck (p0.spec.Grid.Wide*p0.spec.Grid.High)).bind λa0=>Ca F a2 a0 F 0 ([]))
def Ge (F:Nat):Option Bool:=(Ea F (top_Filed.mk ([(0,7,4),(1,8,9)]) 1 2 ([]:(List Int)) 0) 1).bind λy4=>(Ea F (top_Filed.mk ([(0,7,4),(1,8,9)]) 1 2 ([]:(List Int)) 0) 2).bind λy8=>(Ja F y4.1 y8.1).bind λa7=>(Er F (mosaic_Spec.mk (api_Grid.mk top_filedSpec.Grid.X top_filedSpec.Grid.Y top_filedSpec.Grid.Size top_filedSpec.Grid.Wide top_filedSpec.Grid.High) (api_Span.mk top_filedSpec.Earth.Lo top_filedSpec.Earth.Hi) top_filedSpec.Radars top_filedSpec.Age)).bind λa0=>bif (bif (bif (bif (y4.2 != 0) then true else (y8.2 != 0)) then true else (a7.2 != 0)) then true else (a0.2 != 0)) then (some false) else ((Ci F (mosaic_Node.mk (mosaic_Spec.mk (api_Grid.mk a0.1.spec.Grid.X a0.1.spec.Grid.Y a0.1.spec.Grid.Size a0.1.spec.Grid.Wide a0.1.spec.Grid.High) (api_Span.mk a0.1.spec.Earth.Lo a0.1.spec.Earth.Hi) a0.1.spec.Radars a0.1.spec.Age) a0.1.radars a0.1.horizon a0.1.kept a0.1.count a0.1.looks) a7.1).bind λa1=>bif (!a1.1) then (some false) else ((D6 F (mosaic_Node.mk (mosaic_Spec.mk (api_Grid.mk a1.2.spec.Grid.X a1.2.spec.Grid.Y a1.2.spec.Grid.Size a1.2.spec.Grid.Wide a1.2.spec.Grid.High) (api_Span.mk a1.2.spec.Earth.Lo a1.2.spec.Earth.Hi) a1.2.spec.Radars a1.2.spec.Age) a1.2.radars a1.2.horizon a1.2.kept a1.2.count a1.2.looks) 20).bind λa2=>(gd (((bif (a2.2.1==0) then ((a2.1.length:Int)==8) else false)==true&&true)) (Cj a2.1 0) default).bind λa3=>(gd (((bif (bif (a2.2.1==0) then ((a2.1.length:Int)==8) else false) then (((a3.Value_.Lo:Int)==4)&&(((a3.Value_.Hi:Int)==5)&&true)) else false)==true&&true)) (Cj a2.1 0) default).bind λa4=>(gd (((bif (bif (bif (a2.2.1==0) then ((a2.1.length:Int)==8) else false) then (((a3.Value_.Lo:Int)==4)&&(((a3.Value_.Hi:Int)==5)&&true)) else false) then (sEq a4.Key.Name (⟨#[97]⟩:ByteArray)) else false)==true&&true)) (Cj a2.1 3) default).bind λa5=>(gd (((bif (bif (bif (bif (a2.2.1==0) then ((a2.1.length:Int)==8) else false) then (((a3.Value_.Lo:Int)==4)&&(((a3.Value_.Hi:Int)==5)&&true)) else false) then (sEq a4.Key.Name (⟨#[97]⟩:ByteArray)) else false) then (sEq a5.Key.Name (⟨#[98]⟩:ByteArray)) else false)==true&&true)) (Cj a2.1 3) default).bind λa6=>some (bif (bif (bif (bif (bif (a2.2.1==0) then ((a2.1.length:Int)==8) else false) then (((a3.Value_.Lo:Int)==4)&&(((a3.Value_.Hi:Int)==5)&&true)) else false) then (sEq a4.Key.Name (⟨#[97]⟩:ByteArray)) else false) then (sEq a5.Key.Name (⟨#[98]⟩:ByteArray)) else false) then (((a6.Value_.Lo:Int)==7)&&(((a6.Value_.Hi:Int)==7)&&true)) else false)))
def D1:Option Bool:=some true
def C5 (p0:(List mosaic_Radar)) (p1:(List mosaic_Radar)) (k2:(Int->Option Bool)) (a2:Int):Option Bool:=bif (decide (a2<(p0.length:Int))) then ((Cj p0 a2).bind λa0=>(Cj p1 a2).bind λa1=>bif (!(((a0.Site.Name==a1.Site.Name)&&(((a0.Site.X:Int)==a1.Site.X)&&(((a0.Site.Y:Int)==a1.Site.Y)&&(((a0.Site.Z:Int)==a1.Site.Z)&&(((a0.Site.Rose:Int)==a1.Site.Rose)&&(((a0.Site.Gates:Int)==a1.Site.Gates)&&(((a0.Site.Step:Int)==a1.Site.Step)&&(((a0.Site.Width:Int)==a1.Site.Width)&&true))))))))&&((((a0.Offset.Lo:Int)==a1.Offset.Lo)&&(((a0.Offset.Hi:Int)==a1.Offset.Hi)&&true))&&true))) then (some false) else ((ck (a2+1)).bind λa3=>k2 a3)) else (D1)
def B8 (p0:(List mosaic_Radar)) (p1:(List mosaic_Radar)):Nat->Int->Option Bool
  | 0,_=>none
  | n+1,a0=>C5 p0 p1 (B8 p0 p1 n) a0
def Bw (F:Nat) (p0:(List mosaic_Radar)) (p1:(List mosaic_Radar)):Option Bool:=bif ((p0.length:Int) != (p1.length:Int)) then (some false) else (B8 p0 p1 F 0)
def L0 (F:Nat) (p0:mosaic_Spec) (p1:mosaic_Spec):Option Bool:=(gd (((bif (bif (((p0.Grid.X:Int)==p1.Grid.X)&&(((p0.Grid.Y:Int)==p1.Grid.Y)&&(((p0.Grid.Size:Int)==p1.Grid.Size)&&(((p0.Grid.Wide:Int)==p1.Grid.Wide)&&(((p0.Grid.High:Int)==p1.Grid.High)&&true))))) then (((p0.Earth.Lo:Int)==p1.Earth.Lo)&&(((p0.Earth.Hi:Int)==p1.Earth.Hi)&&true)) else false) then (p0.Age==p1.Age) else false)==true&&true)) (Bw F p0.Radars p1.Radars) default).bind λy9=>some (bif (bif (bif (((p0.Grid.X:Int)==p1.Grid.X)&&(((p0.Grid.Y:Int)==p1.Grid.Y)&&(((p0.Grid.Size:Int)==p1.Grid.Size)&&(((p0.Grid.Wide:Int)==p1.Grid.Wide)&&(((p0.Grid.High:Int)==p1.Grid.High)&&true))))) then (((p0.Earth.Lo:Int)==p1.Earth.Lo)&&(((p0.Earth.Hi:Int)==p1.Earth.Hi)&&true)) else false) then (p0.Age==p1.Age) else false) then y9 else false)
def Hr (a0:(List mosaic_Message)):Option (List mosaic_Message):=some a0
def Hs (a1:Int) (k2:(Int->(List mosaic_Message)->Option (List mosaic_Message))) (a0:(List mosaic_Message)):Option (List mosaic_Message):=(ck (a1+1)).bind λa2=>k2 a2 a0
def Hq (F:Nat) (p0:mosaic_Node) (a5:Int) (k2:(Int->(List mosaic_Message)->Option (List mosaic_Message))) (a0:mosaic_Key) (k4:(Int->(List mosaic_Message)->Option (List mosaic_Message))) (a1:Int) (a2:(List mosaic_Message)):Option (List mosaic_Message):=bif (decide (a1<((((lkM p0.kept a0).getD []).length:Nat):Int))) then ((Cj ((lkM p0.kept a0).getD []) a1).bind λa4=>(Bn F a4).bind λa7=>(apd 56 a2 ([(mosaic_Message.mk a0 a7)])).bind λa3=>(ck (a1+1)).bind λa6=>k4 a6 a3) else (Hs a5 k2 a2)
def Eh (F:Nat) (p0:mosaic_Node) (a1:Int) (k2:(Int->(List mosaic_Message)->Option (List mosaic_Message))) (a0:mosaic_Key):Nat->Int->(List mosaic_Message)->Option (List mosaic_Message)
  | 0,_,_=>none
  | n+1,a3,a2=>Hq F p0 a1 k2 a0 (Eh F p0 a1 k2 a0 n) a3 a2
def Hp (F:Nat) (p0:mosaic_Node) (a2:(List mosaic_Key)) (k2:(Int->(List mosaic_Message)->Option (List mosaic_Message))) (a0:Int) (a1:(List mosaic_Message)):Option (List mosaic_Message):=bif (decide (a0<(a2.length:Int))) then ((Cj a2 a0).bind λa3=>Eh F p0 a0 k2 a3 F 0 a1) else (Hr a1)
def Dq (F:Nat) (p0:mosaic_Node) (a0:(List mosaic_Key)):Nat->Int->(List mosaic_Message)->Option (List mosaic_Message)
  | 0,_,_=>none
  | n+1,a2,a1=>Hp F p0 a0 (Dq F p0 a0 n) a2 a1
def Ev (F:Nat) (p0:mosaic_Node):Option (List mosaic_Message):=(Km F p0).bind λa0=>Dq F p0 a0 F 0 ([])
def Gk (p0:mosaic_Node) (a5:(Int×mosaic_Node)) (a8:Int) (a9:Int) (a3:Int) (a0:Int) (aA:Int) (aB:Int) (aC:Int) (aD:Int) (aE:Int) (a6:(List mosaic_Radar)) (aF:Int) (a1:(List (mosaic_Key×(List (List api_Span))))) (a2:(List (ByteArray×mosaic_Radar))) (a7:(List (mosaic_where×(List api_Span)))):Option (Int×Int×mosaic_Node):=bif (decide (a0>256)) then (none) else ((ck (a0-a5.2.count)).bind λa4=>some (a4,0,(mosaic_Node.mk p0.spec a2 a3 a1 a0 p0.looks)))
def Du (a4:Int) (k2:(Int->Int->Int->Int->Int->Int->Int->Int->Int->(List mosaic_Radar)->Int->(List (mosaic_Key×(List (List api_Span))))->(List (ByteArray×mosaic_Radar))->(List (mosaic_where×(List api_Span)))->Int->Option (Int×Int×mosaic_Node))) (a5:Int) (a6:Int) (a7:Int) (a8:Int) (a9:Int) (aA:Int) (aB:Int) (aC:Int) (aD:Int) (a0:(List mosaic_Radar)) (aE:Int) (a1:(List (mosaic_Key×(List (List api_Span))))) (a2:(List (ByteArray×mosaic_Radar))) (a3:(List (mosaic_where×(List api_Span)))):Option (Int×Int×mosaic_Node):=(ck (a4+1)).bind λaF=>k2 a5 a6 a7 a8 a9 aA aB aC aD a0 aE a1 a2 a3 aF
def Gj (F:Nat) (p0:mosaic_Node) (aI:(Int×mosaic_Node)) (aH:(List mosaic_Message)) (k2:(Int->Int->Int->Int->Int->Int->Int->Int->Int->(List mosaic_Radar)->Int->(List (mosaic_Key×(List (List api_Span))))->(List (ByteArray×mosaic_Radar))->(List (mosaic_where×(List api_Span)))->Int->Option (Int×Int×mosaic_Node))) (a6:Int) (a7:Int) (a1:Int) (a8:Int) (a9:Int) (aA:Int) (aB:Int) (aC:Int) (aD:Int) (a2:(List mosaic_Radar)) (aE:Int) (a3:(List (mosaic_Key×(List (List api_Span))))) (a4:(List (ByteArray×mosaic_Radar))) (a5:(List (mosaic_where×(List api_Span)))) (aF:Int):Option (Int×Int×mosaic_Node):=bif (decide (aF<(aH.length:Int))) then ((Cj aH aF).bind λaG=>(Cz F (mosaic_Node.mk (mosaic_Spec.mk (api_Grid.mk a6 a7 a9 aA aB) (api_Span.mk aC aD) a2 aE) a4 a1 a3 a8 a5) aG).bind λaJ=>bif (bif (!aJ.2) then (decide (aG.Key.Time>=a1)) else false) then ((G3 F (mosaic_Node.mk (mosaic_Spec.mk (api_Grid.mk a6 a7 a9 aA aB) (api_Span.mk aC aD) a2 aE) a4 a1 a3 a8 a5) aG).bind λa0=>Du aF k2 a0.spec.Grid.X a0.spec.Grid.Y a0.horizon a0.count a0.spec.Grid.Size a0.spec.Grid.Wide a0.spec.Grid.High a0.spec.Earth.Lo a0.spec.Earth.Hi a0.spec.Radars a0.spec.Age a0.kept a0.radars a0.looks) else (Du aF k2 a6 a7 a1 a8 a9 aA aB aC aD a2 aE a3 a4 a5)) else (Gk p0 aI a6 a7 a1 a8 a9 aA aB aC aD a2 aE a3 a4 a5)
def Dc (F:Nat) (p0:mosaic_Node) (a1:(Int×mosaic_Node)) (a0:(List mosaic_Message)):Nat->Int->Int->Int->Int->Int->Int->Int->Int->Int->(List mosaic_Radar)->Int->(List (mosaic_Key×(List (List api_Span))))->(List (ByteArray×mosaic_Radar))->(List (mosaic_where×(List api_Span)))->Int->Option (Int×Int×mosaic_Node)
  | 0,_,_,_,_,_,_,_,_,_,_,_,_,_,_,_=>none
  | n+1,a6,a7,a8,a9,aA,aB,aC,aD,aE,a2,aF,a3,a4,a5,aG=>Gj F p0 a1 a0 (Dc F p0 a1 a0 n) a6 a7 a8 a9 aA aB aC aD aE a2 aF a3 a4 a5 aG
def Eu (F:Nat) (p0:mosaic_Node) (p1:mosaic_Node):Option (Int×Int×mosaic_Node):=(Bt F p0).bind λa2=>bif a2 then (none) else ((Bt F p1).bind λa3=>bif a3 then (none) else ((L0 F p0.spec p1.spec).bind λa4=>bif (!a4) then (none) else ((X8 F p0).bind λa1=>(M7 F (mosaic_Node.mk a1.spec p0.radars a1.horizon a1.kept a1.count a1.looks) (if p1.horizon>p0.horizon then p1.horizon else p0.horizon)).bind λa0=>(Ev F p1).bind λa5=>Dc F p0 a0 a5 F a0.2.spec.Grid.X a0.2.spec.Grid.Y a0.2.horizon a0.2.count a0.2.spec.Grid.Size a0.2.spec.Grid.Wide a0.2.spec.Grid.High a0.2.spec.Earth.Lo a0.2.spec.Earth.Hi a0.2.spec.Radars a0.2.spec.Age a0.2.kept a0.2.radars a0.2.looks 0)))
def J3 (a0:(List Int)) (a2:Int):Option (List Int):=(apd 1 a0 ([IntKind.u8.wrap a2])).bind λa1=>some a1
def J2 (k2:((List Int)->Int->Option (List Int))) (a1:(List Int)) (a0:Int):Option (List Int):=bif (decide (a0>=128)) then ((J9 a0 128).bind λa3=>(ck (a3+128)).bind λa4=>(apd 1 a1 ([IntKind.u8.wrap a4])).bind λa2=>(Mc a0 128).bind λa5=>k2 a2 a5) else (J3 a1 a0)
def Es:Nat->(List Int)->Int->Option (List Int)
  | 0,_,_=>none
  | n+1,a0,a1=>J2 (Es n) a0 a1
def E9 (F:Nat) (p0:(List Int)) (p1:Int):Option (List Int):=Es F p0 p1
def P7 (a0:Int):Option (List Int):=some ([IntKind.u8.wrap (Int.fdiv a0 16777216),IntKind.u8.wrap (Int.fdiv a0 65536),IntKind.u8.wrap (Int.fdiv a0 256),IntKind.u8.wrap a0])
def Lp (p0:(List Int)) (k2:(Int->Int->Option (List Int))) (a1:Int) (a0:Int):Option (List Int):=bif (decide (a0<(p0.length:Int))) then ((Cj p0 a0).bind λa2=>(ck (a0+1)).bind λa3=>k2 (IntKind.u32.wrap ((IntKind.u32.wrap ((IntKind.u32.wrap (31*a1))+(IntKind.u32.wrap a2)))+1)) a3) else (P7 a1)
def Gu (p0:(List Int)):Nat->Int->Int->Option (List Int)
  | 0,_,_=>none
  | n+1,a0,a1=>Lp p0 (Gu p0 n) a0 a1
def Pi (F:Nat) (p0:(List Int)):Option (List Int):=Gu p0 F 1 0
def Dy (F:Nat) (a0:(List Int)):Option (List Int):=(Pi F a0).bind λa2=>(apd 1 a0 a2).bind λa1=>some a1
def F3 (a1:Int) (k2:(Int->(List Int)->Option (List Int))) (a0:(List Int)):Option (List Int):=(ck (a1+1)).bind λa2=>k2 a2 a0
def F2 (F:Nat) (a4:Int) (k2:(Int->(List Int)->Option (List Int))) (a3:mosaic_Message) (k4:((List Int)->Int->Option (List Int))) (a2:(List Int)) (a1:Int):Option (List Int):=bif (decide (a1<(a3.Vals.length:Int))) then ((Cj a3.Vals a1).bind λa0=>(ck (a0.Hi-a0.Lo)).bind λa5=>(E9 F a2 a0.Lo).bind λa7=>(E9 F a7 a5).bind λa8=>(ck (a1+1)).bind λa6=>k4 a8 a6) else (F3 a4 k2 a2)
def D7 (F:Nat) (a1:Int) (k2:(Int->(List Int)->Option (List Int))) (a0:mosaic_Message):Nat->(List Int)->Int->Option (List Int)
  | 0,_,_=>none
  | n+1,a2,a3=>F2 F a1 k2 a0 (D7 F a1 k2 a0 n) a2 a3
def F1 (F:Nat) (a3:(List mosaic_Message)) (k2:(Int->(List Int)->Option (List Int))) (a1:Int) (a2:(List Int)):Option (List Int):=bif (decide (a1<(a3.length:Int))) then ((Cj a3 a1).bind λa0=>(E9 F a2 ((a0.Key.Name.size:Nat):Int)).bind λa5=>(apd 1 a5 (sby a0.Key.Name)).bind λa4=>(E9 F a4 a0.Key.Tilt).bind λa6=>(E9 F a6 a0.Key.Time).bind λa7=>D7 F a1 k2 a0 F a7 0) else (Dy F a2)
def Cl (F:Nat) (a0:(List mosaic_Message)):Nat->Int->(List Int)->Option (List Int)
  | 0,_,_=>none
  | n+1,a2,a1=>F1 F a0 (Cl F a0 n) a2 a1
def Bl (F:Nat) (p0:mosaic_Node):Option (List Int):=(Bt F p0).bind λa0=>bif a0 then (none) else ((E9 F ([82,68,77,49]) p0.horizon).bind λa1=>(E9 F a1 p0.count).bind λa2=>(Ev F p0).bind λa3=>Cl F a3 F 0 a2)
def Nf (a0:((List mosaic_Pixel)×Int×(List (mosaic_where×(List api_Span))))) (a1:((List mosaic_Pixel)×Int×(List (mosaic_where×(List api_Span))))):Option (Bool×(List (mosaic_where×(List api_Span)))×(List (mosaic_where×(List api_Span)))):=some (true,a0.2.2,a1.2.2)
def Lc (a3:((List mosaic_Pixel)×Int×(List (mosaic_where×(List api_Span))))) (a4:((List mosaic_Pixel)×Int×(List (mosaic_where×(List api_Span))))) (k3:(Int->Option (Bool×(List (mosaic_where×(List api_Span)))×(List (mosaic_where×(List api_Span)))))) (a2:Int):Option (Bool×(List (mosaic_where×(List api_Span)))×(List (mosaic_where×(List api_Span)))):=bif (decide (a2<8)) then ((Cj a3.1 a2).bind λa0=>(Cj a4.1 a2).bind λa1=>bif (!((((a0.Value_.Lo:Int)==a1.Value_.Lo)&&(((a0.Value_.Hi:Int)==a1.Value_.Hi)&&true))&&(((a0.Key.Name==a1.Key.Name)&&(((a0.Key.Tilt:Int)==a1.Key.Tilt)&&(((a0.Key.Time:Int)==a1.Key.Time)&&true)))&&true))) then (none) else ((ck (a2+1)).bind λa5=>k3 a5)) else (Nf a3 a4)
def G7 (a0:((List mosaic_Pixel)×Int×(List (mosaic_where×(List api_Span))))) (a1:((List mosaic_Pixel)×Int×(List (mosaic_where×(List api_Span))))):Nat->Int->Option (Bool×(List (mosaic_where×(List api_Span)))×(List (mosaic_where×(List api_Span))))
  | 0,_=>none
  | n+1,a2=>Lc a0 a1 (G7 a0 a1 n) a2
def J5 (F:Nat) (p0:mosaic_Node) (p1:mosaic_Node) (p2:Int):Option (Bool×(List (mosaic_where×(List api_Span)))×(List (mosaic_where×(List api_Span)))):=(D6 F p0 p2).bind λa0=>(D6 F p1 p2).bind λa1=>bif (bif (bif (bif (a0.2.1 != 0) then true else (a1.2.1 != 0)) then true else ((a0.1.length:Int) != 8)) then true else ((a1.1.length:Int) != 8)) then (none) else (G7 a0 a1 F 0)
def Ld (F:Nat) (p0:mosaic_Node) (p1:mosaic_Node) (p2:Int) (a1:(List Int)) (a5:(List Int)) (k4:(Int->Option (Bool×(List (mosaic_where×(List api_Span)))×(List (mosaic_where×(List api_Span)))))) (a0:Int):Option (Bool×(List (mosaic_where×(List api_Span)))×(List (mosaic_where×(List api_Span)))):=bif (decide (a0<(a1.length:Int))) then ((Cj a1 a0).bind λa2=>(Cj a5 a0).bind λa3=>bif (a2 != a3) then (none) else ((ck (a0+1)).bind λa4=>k4 a4)) else (J5 F p0 p1 p2)
def G8 (F:Nat) (p0:mosaic_Node) (p1:mosaic_Node) (p2:Int) (a0:(List Int)) (a1:(List Int)):Nat->Int->Option (Bool×(List (mosaic_where×(List api_Span)))×(List (mosaic_where×(List api_Span))))
  | 0,_=>none
  | n+1,a2=>Ld F p0 p1 p2 a0 a1 (G8 F p0 p1 p2 a0 a1 n) a2
def Eb (F:Nat) (p0:mosaic_Node) (p1:mosaic_Node) (p2:Int):Option (Bool×(List (mosaic_where×(List api_Span)))×(List (mosaic_where×(List api_Span)))):=(Bl F p0).bind λa0=>(Bl F p1).bind λa1=>bif ((a0.length:Int) != (a1.length:Int)) then (none) else (G8 F p0 p1 p2 a0 a1 F 0)
def Ef (F:Nat) (s_r:((List volume_Item)×Int×Nat)) (x_:(Int×(List Int))):Option (((List volume_Item)×Int×Nat)×Bool):=(Ff F x_.2).bind λa0=>bif (a0.2==0) then ((Ki F a0.1).bind λa3=>(apd 224 s_r.1 ([a3])).bind λa1=>some ((a1,s_r.2.1,0),true)) else ((ck (s_r.2.1+1)).bind λa2=>some ((s_r.1,a2,0),true))
def Mr (tg_:Nat):Code:=.ret
def Ks (F:Nat) (p0:(List Int)):Option ((List volume_Item)×Int×Int):=bif (decide ((p0.length:Int)>16777216)) then (none) else ((Dz F p0 (Ef F) (([]:List volume_Item),0,0)).bind λa0=>bif a0.2 then (bif (decide ((a0.1.1.length:Int)>1000)) then (none) else (some (a0.1.1,a0.1.2.1,0))) else (none))
def Ee (p0:mosaic_reader) (p1:Int):Option ((List Int)×mosaic_reader):=(K4 p0.left (0:Int) p1).bind λl4=>(K4 p0.left p1 (p0.left.length:Int)).bind λl6=>some (l4,(mosaic_reader.mk l6))
def Bq (F:Nat) (p0:mosaic_reader) (p1:Int):Option ((List Int)×mosaic_reader):=bif (decide (p1>(p0.left.length:Int))) then (none) else (Ee p0 p1)
def Hg (a0:(List Int)):Option (Int×mosaic_reader):=none
def F5 (F:Nat) (k2:((List Int)->Int->Int->Option (Int×mosaic_reader))) (a2:(List Int)) (a3:Int) (a0:Int):Option (Int×mosaic_reader):=bif (decide (a0<35)) then ((Bq F (mosaic_reader.mk a2) 1).bind λa1=>(Cj a1.1 0).bind λa6=>(ck a6).bind λa4=>(J9 a4 128).bind λa7=>(A9s .i64 a7 a0).bind λa5=>bif (decide (a4<128)) then (some ((orK .i64 a3 a5),(mosaic_reader.mk a1.2.left))) else ((ck (a0+7)).bind λa8=>k2 a1.2.left (orK .i64 a3 a5) a8)) else (Hg a2)
def C4 (F:Nat):Nat->(List Int)->Int->Int->Option (Int×mosaic_reader)
  | 0,_,_,_=>none
  | n+1,a0,a1,a2=>F5 F (C4 F n) a0 a1 a2
def Al (F:Nat) (p0:mosaic_reader):Option (Int×mosaic_reader):=C4 F F p0.left 0 0
def Gq:Option Bool:=some true
def Em (p0:(List Int)) (p1:(List Int)) (k2:(Int->Option Bool)) (a0:Int):Option Bool:=bif (decide (a0<(p0.length:Int))) then ((Cj p0 a0).bind λa1=>(Cj p1 a0).bind λa2=>bif (a1 != a2) then (some false) else ((ck (a0+1)).bind λa3=>k2 a3)) else (Gq)
def Cy (p0:(List Int)) (p1:(List Int)):Nat->Int->Option Bool
  | 0,_=>none
  | n+1,a0=>Em p0 p1 (Cy p0 p1 n) a0
def Dn (F:Nat) (p0:(List Int)) (p1:(List Int)):Option Bool:=bif ((p0.length:Int) != (p1.length:Int)) then (some false) else (Cy p0 p1 F 0)
def Mj (F:Nat) (p1:(List Int)) (a4:Int) (a5:Int) (a6:Int) (a7:Int) (a8:Int) (a9:Int) (aA:Int) (aB:Int) (aC:Int) (a0:(List mosaic_Radar)) (aD:Int) (aG:(List Int)) (a1:(List (ByteArray×mosaic_Radar))) (a2:(List (mosaic_Key×(List (List api_Span))))) (a3:(List (mosaic_where×(List api_Span)))):Option (mosaic_Node×Int):=(Bl F (mosaic_Node.mk (mosaic_Spec.mk (api_Grid.mk a4 a5 a8 a9 aA) (api_Span.mk aB aC) a0 aD) a1 a6 a2 a7 a3)).bind λaE=>(Dn F aE p1).bind λaF=>bif (!aF) then (none) else (some ((mosaic_Node.mk (mosaic_Spec.mk (api_Grid.mk a4 a5 a8 a9 aA) (api_Span.mk aB aC) a0 aD) a1 a6 a2 a7 a3),0))
def Ke (a5:Int) (k4:(Int->Int->Int->Int->Int->Int->Int->Int->Int->(List mosaic_Radar)->Int->(List Int)->(List (ByteArray×mosaic_Radar))->(List (mosaic_Key×(List (List api_Span))))->(List (mosaic_where×(List api_Span)))->Int->Option (mosaic_Node×Int))) (a6:Int) (a7:Int) (a8:Int) (a9:Int) (aA:Int) (aB:Int) (aC:Int) (aD:Int) (aE:Int) (a0:(List mosaic_Radar)) (aF:Int) (a1:(List Int)) (a2:(List (ByteArray×mosaic_Radar))) (a3:(List (mosaic_Key×(List (List api_Span))))) (a4:(List (mosaic_where×(List api_Span)))):Option (mosaic_Node×Int):=(ck (a5+1)).bind λaG=>k4 a6 a7 a8 a9 aA aB aC aD aE a0 aF a1 a2 a3 a4 aG
def H6 (F:Nat) (a7:Int) (a8:Int) (a9:Int) (aA:Int) (aB:Int) (aC:Int) (aD:Int) (aE:Int) (aF:Int) (a1:(List mosaic_Radar)) (aG:Int) (a2:(List (ByteArray×mosaic_Radar))) (a3:(List (mosaic_Key×(List (List api_Span))))) (a4:(List (mosaic_where×(List api_Span)))) (aH:Int) (k4:(Int->Int->Int->Int->Int->Int->Int->Int->Int->(List mosaic_Radar)->Int->(List Int)->(List (ByteArray×mosaic_Radar))->(List (mosaic_Key×(List (List api_Span))))->(List (mosaic_where×(List api_Span)))->Int->Option (mosaic_Node×Int))) (aI:((List Int)×mosaic_reader)) (aJ:(Int×mosaic_reader)) (aK:(Int×mosaic_reader)) (a5:(List Int)) (a6:(List api_Span)):Option (mosaic_Node×Int):=(Bj F (mosaic_Node.mk (mosaic_Spec.mk (api_Grid.mk a7 a8 aB aC aD) (api_Span.mk aE aF) a1 aG) a2 a9 a3 aA a4) (mosaic_Message.mk (mosaic_Key.mk (bst aI.1) aJ.1 aK.1) a6)).bind λa0=>bif (bif (!a0.1) then true else (a0.2.1 != 0)) then (none) else (Ke aH k4 a0.2.2.spec.Grid.X a0.2.2.spec.Grid.Y a0.2.2.horizon a0.2.2.count a0.2.2.spec.Grid.Size a0.2.2.spec.Grid.Wide a0.2.2.spec.Grid.High a0.2.2.spec.Earth.Lo a0.2.2.spec.Earth.Hi a0.2.2.spec.Radars a0.2.2.spec.Age a5 a0.2.2.radars a0.2.2.kept a0.2.2.looks)
def H5 (F:Nat) (aA:Int) (aB:Int) (aC:Int) (aD:Int) (aE:Int) (aF:Int) (aG:Int) (aH:Int) (aI:Int) (a5:(List mosaic_Radar)) (aJ:Int) (a6:(List (ByteArray×mosaic_Radar))) (a7:(List (mosaic_Key×(List (List api_Span))))) (a8:(List (mosaic_where×(List api_Span)))) (aK:Int) (k4:(Int->Int->Int->Int->Int->Int->Int->Int->Int->(List mosaic_Radar)->Int->(List Int)->(List (ByteArray×mosaic_Radar))->(List (mosaic_Key×(List (List api_Span))))->(List (mosaic_where×(List api_Span)))->Int->Option (mosaic_Node×Int))) (aO:((List Int)×mosaic_reader)) (aP:(Int×mosaic_reader)) (aQ:(Int×mosaic_reader)) (aL:Int) (k7:((List Int)->(List api_Span)->Int->Option (mosaic_Node×Int))) (a1:(List Int)) (a2:(List api_Span)) (a3:Int):Option (mosaic_Node×Int):=bif (decide (a3<aL)) then ((Al F (mosaic_reader.mk a1)).bind λa0=>(Al F (mosaic_reader.mk a0.2.left)).bind λa4=>(ck (a0.1+a4.1)).bind λaM=>(apd 16 a2 ([(api_Span.mk a0.1 aM)])).bind λa9=>(ck (a3+1)).bind λaN=>k7 a4.2.left a9 aN) else (H6 F aA aB aC aD aE aF aG aH aI a5 aJ a6 a7 a8 aK k4 aO aP aQ a1 a2)
def Ed (F:Nat) (a4:Int) (a5:Int) (a6:Int) (a7:Int) (a8:Int) (a9:Int) (aA:Int) (aB:Int) (aC:Int) (a0:(List mosaic_Radar)) (aD:Int) (a1:(List (ByteArray×mosaic_Radar))) (a2:(List (mosaic_Key×(List (List api_Span))))) (a3:(List (mosaic_where×(List api_Span)))) (aE:Int) (k4:(Int->Int->Int->Int->Int->Int->Int->Int->Int->(List mosaic_Radar)->Int->(List Int)->(List (ByteArray×mosaic_Radar))->(List (mosaic_Key×(List (List api_Span))))->(List (mosaic_where×(List api_Span)))->Int->Option (mosaic_Node×Int))) (aG:((List Int)×mosaic_reader)) (aH:(Int×mosaic_reader)) (aI:(Int×mosaic_reader)) (aF:Int):Nat->(List Int)->(List api_Span)->Int->Option (mosaic_Node×Int)
  | 0,_,_,_=>none
  | n+1,aJ,aK,aL=>H5 F a4 a5 a6 a7 a8 a9 aA aB aC a0 aD a1 a2 a3 aE k4 aG aH aI aF (Ed F a4 a5 a6 a7 a8 a9 aA aB aC a0 aD a1 a2 a3 aE k4 aG aH aI aF n) aJ aK aL
def H4 (F:Nat) (p0:mosaic_Spec) (p1:(List Int)) (aL:(Int×mosaic_reader)) (k4:(Int->Int->Int->Int->Int->Int->Int->Int->Int->(List mosaic_Radar)->Int->(List Int)->(List (ByteArray×mosaic_Radar))->(List (mosaic_Key×(List (List api_Span))))->(List (mosaic_where×(List api_Span)))->Int->Option (mosaic_Node×Int))) (a5:Int) (a6:Int) (a7:Int) (a8:Int) (a9:Int) (aA:Int) (aB:Int) (aC:Int) (aD:Int) (a0:(List mosaic_Radar)) (aE:Int) (a1:(List Int)) (a2:(List (ByteArray×mosaic_Radar))) (a3:(List (mosaic_Key×(List (List api_Span))))) (a4:(List (mosaic_where×(List api_Span)))) (aF:Int):Option (mosaic_Node×Int):=bif (decide (aF<aL.1)) then ((Al F (mosaic_reader.mk a1)).bind λaG=>(Bq F (mosaic_reader.mk aG.2.left) aG.1).bind λaH=>(Al F (mosaic_reader.mk aH.2.left)).bind λaI=>(Al F (mosaic_reader.mk aI.2.left)).bind λaJ=>(ck (p0.Grid.Wide*p0.Grid.High)).bind λaK=>Ed F a5 a6 a7 a8 a9 aA aB aC aD a0 aE a2 a3 a4 aF k4 aH aI aJ aK F aJ.2.left ([]) 0) else (Mj F p1 a5 a6 a7 a8 a9 aA aB aC aD a0 aE a1 a2 a3 a4)
def De (F:Nat) (p0:mosaic_Spec) (p1:(List Int)) (a0:(Int×mosaic_reader)):Nat->Int->Int->Int->Int->Int->Int->Int->Int->Int->(List mosaic_Radar)->Int->(List Int)->(List (ByteArray×mosaic_Radar))->(List (mosaic_Key×(List (List api_Span))))->(List (mosaic_where×(List api_Span)))->Int->Option (mosaic_Node×Int)
  | 0,_,_,_,_,_,_,_,_,_,_,_,_,_,_,_,_=>none
  | n+1,a6,a7,a8,a9,aA,aB,aC,aD,aE,a1,aF,a2,a3,a4,a5,aG=>H4 F p0 p1 a0 (De F p0 p1 a0 n) a6 a7 a8 a9 aA aB aC aD aE a1 aF a2 a3 a4 a5 aG
def Kd (F:Nat) (p0:mosaic_Spec) (p1:(List Int)) (a0:(mosaic_Node×Int)) (a2:(Int×mosaic_reader)) (a1:(Int×mosaic_reader)):Option (mosaic_Node×Int):=De F p0 p1 a1 F a0.1.spec.Grid.X a0.1.spec.Grid.Y a2.1 a0.1.count a0.1.spec.Grid.Size a0.1.spec.Grid.Wide a0.1.spec.Grid.High a0.1.spec.Earth.Lo a0.1.spec.Earth.Hi a0.1.spec.Radars a0.1.spec.Age a1.2.left a0.1.radars a0.1.kept a0.1.looks 0
def Kc (F:Nat) (p0:mosaic_Spec) (p1:(List Int)) (a3:(mosaic_Node×Int)) (a2:(List Int)):Option (mosaic_Node×Int):=(Al F (mosaic_reader.mk a2)).bind λa0=>(Al F (mosaic_reader.mk a0.2.left)).bind λa1=>bif (bif (decide (a0.1>4294967296)) then true else (decide (a1.1>256))) then (none) else (Kd F p0 p1 a3 a0 a1)
def Hw (F:Nat) (p0:mosaic_Spec) (p1:(List Int)):Option (mosaic_Node×Int):=(Er F p0).bind λa0=>bif (a0.2 != 0) then (none) else ((Bq F (mosaic_reader.mk p1) 4).bind λa1=>bif (!(sEq (bst a1.1) (⟨#[82,68,77,49]⟩:ByteArray))) then (none) else (Kc F p0 p1 a0 a1.2.left))
def Jw (F:Nat) (p0:top_Filed) (aZ:((List Int)×Int)) (a3:((List Int)×Int)) (a0:(Bool×mosaic_Node)) (aY:(Bool×(List (mosaic_where×(List api_Span)))×(List (mosaic_where×(List api_Span))))) (aH:Int) (aI:Int) (aJ:Int) (aK:Int) (aL:Int) (aM:Int) (aN:Int) (aO:Int) (aP:Int) (aA:(List mosaic_Radar)) (aQ:Int) (aB:(List (ByteArray×mosaic_Radar))) (aC:(List (mosaic_Key×(List (List api_Span))))) (aD:(List (mosaic_where×(List api_Span)))):Option Bool:=(ck p0.Time).bind λaR=>(J9 aR 120).bind λaS=>(Eb F (mosaic_Node.mk (mosaic_Spec.mk (api_Grid.mk a0.2.spec.Grid.X a0.2.spec.Grid.Y a0.2.spec.Grid.Size a0.2.spec.Grid.Wide a0.2.spec.Grid.High) (api_Span.mk a0.2.spec.Earth.Lo a0.2.spec.Earth.Hi) a0.2.spec.Radars a0.2.spec.Age) a0.2.radars a0.2.horizon a0.2.kept a0.2.count aY.2.1) (mosaic_Node.mk (mosaic_Spec.mk (api_Grid.mk aH aI aL aM aN) (api_Span.mk aO aP) aA aQ) aB aJ aC aK aD) aS).bind λa5=>bif (!a5.1) then (none) else ((ck p0.Time).bind λaT=>(ck ((a3.1.length:Int)-3)).bind λaU=>(J9 aT aU).bind λaV=>(ck (4+aV)).bind λa8=>(K4 a3.1 (0:Int) a8).bind λaE=>(Jb F aE).bind λa4=>bif (bif (a4.2.2 != 0) then (a4.2.2 != 16) else false) then (none) else ((K4 a3.1 (0:Int) a4.2.1).bind λaF=>(Ja F aF a3.1).bind λa6=>(K4 a3.1 (0:Int) a8).bind λaG=>(Ks F aG).bind λa7=>bif (bif (bif (bif (bif (a6.2 != 0) then true else (a7.2.2 != 0)) then true else ((a7.1.length:Int) != (a4.1.length:Int))) then true else (decide (a7.2.1>1))) then true else ((a6.1.length:Int) != (aZ.1.length:Int))) then (none) else ((Bl F (mosaic_Node.mk (mosaic_Spec.mk (api_Grid.mk a0.2.spec.Grid.X a0.2.spec.Grid.Y a0.2.spec.Grid.Size a0.2.spec.Grid.Wide a0.2.spec.Grid.High) (api_Span.mk a0.2.spec.Earth.Lo a0.2.spec.Earth.Hi) a0.2.spec.Radars a0.2.spec.Age) a0.2.radars a0.2.horizon a0.2.kept a0.2.count a5.2.1)).bind λb0=>(Hw F (mosaic_Spec.mk (api_Grid.mk top_filedSpec.Grid.X top_filedSpec.Grid.Y top_filedSpec.Grid.Size top_filedSpec.Grid.Wide top_filedSpec.Grid.High) (api_Span.mk top_filedSpec.Earth.Lo top_filedSpec.Earth.Hi) top_filedSpec.Radars top_filedSpec.Age) b0).bind λa1=>bif (a1.2==0) then ((Ci F (mosaic_Node.mk (mosaic_Spec.mk (api_Grid.mk a1.1.spec.Grid.X a1.1.spec.Grid.Y a1.1.spec.Grid.Size a1.1.spec.Grid.Wide a1.1.spec.Grid.High) (api_Span.mk a1.1.spec.Earth.Lo a1.1.spec.Earth.Hi) a1.1.spec.Radars a1.1.spec.Age) a1.1.radars a1.1.horizon a1.1.kept a1.1.count a1.1.looks) a6.1).bind λa2=>bif a2.1 then ((ck p0.Time).bind λaW=>(J9 aW 120).bind λaX=>(Eb F (mosaic_Node.mk (mosaic_Spec.mk (api_Grid.mk a0.2.spec.Grid.X a0.2.spec.Grid.Y a0.2.spec.Grid.Size a0.2.spec.Grid.Wide a0.2.spec.Grid.High) (api_Span.mk a0.2.spec.Earth.Lo a0.2.spec.Earth.Hi) a0.2.spec.Radars a0.2.spec.Age) a0.2.radars a0.2.horizon a0.2.kept a0.2.count a5.2.1) (mosaic_Node.mk (mosaic_Spec.mk (api_Grid.mk a2.2.spec.Grid.X a2.2.spec.Grid.Y a2.2.spec.Grid.Size a2.2.spec.Grid.Wide a2.2.spec.Grid.High) (api_Span.mk a2.2.spec.Earth.Lo a2.2.spec.Earth.Hi) a2.2.spec.Radars a2.2.spec.Age) a2.2.radars a2.2.horizon a2.2.kept a2.2.count a2.2.looks) aX).bind λa9=>(gd ((a9.1==true&&true)) (Ge F) default).bind λb1=>some (bif a9.1 then b1 else false)) else (some false)) else (some false))))
def Gv (a4:Int) (k2:(Int->Int->Int->Int->Int->Int->Int->Int->Int->(List mosaic_Radar)->Int->(List (ByteArray×mosaic_Radar))->(List (mosaic_Key×(List (List api_Span))))->(List (mosaic_where×(List api_Span)))->Int->Option Bool)) (a5:Int) (a6:Int) (a7:Int) (a8:Int) (a9:Int) (aA:Int) (aB:Int) (aC:Int) (aD:Int) (a0:(List mosaic_Radar)) (aE:Int) (a1:(List (ByteArray×mosaic_Radar))) (a2:(List (mosaic_Key×(List (List api_Span))))) (a3:(List (mosaic_where×(List api_Span)))):Option Bool:=(ck (a4+1)).bind λaF=>k2 a5 a6 a7 a8 a9 aA aB aC aD a0 aE a1 a2 a3 aF
def Fq (F:Nat) (p0:top_Filed) (a7:Int) (a8:Int) (a9:Int) (aA:Int) (aB:Int) (aC:Int) (aD:Int) (aE:Int) (aF:Int) (a3:(List mosaic_Radar)) (aG:Int) (a4:(List (ByteArray×mosaic_Radar))) (a5:(List (mosaic_Key×(List (List api_Span))))) (a6:(List (mosaic_where×(List api_Span)))) (aH:Int) (k2:(Int->Int->Int->Int->Int->Int->Int->Int->Int->(List mosaic_Radar)->Int->(List (ByteArray×mosaic_Radar))->(List (mosaic_Key×(List (List api_Span))))->(List (mosaic_where×(List api_Span)))->Int->Option Bool)) (aI:Int):Option Bool:=(J9 aI 32).bind λaJ=>(A78 .u32 (orK .u32 p0.First p0.Second) aJ).bind λaK=>bif ((A1v .u32 aK 1)==1) then ((Cj p0.Messages aI).bind λa1=>(Hh F (a1.1,a1.2.1,a1.2.2)).bind λa2=>(Bj F (mosaic_Node.mk (mosaic_Spec.mk (api_Grid.mk a7 a8 aB aC aD) (api_Span.mk aE aF) a3 aG) a4 a9 a5 aA a6) (mosaic_Message.mk (mosaic_Key.mk a2.Name 0 a2.Time) a2.Field.Vals)).bind λa0=>bif (a0.2.1 != 0) then (none) else (Gv aH k2 a0.2.2.spec.Grid.X a0.2.2.spec.Grid.Y a0.2.2.horizon a0.2.2.count a0.2.2.spec.Grid.Size a0.2.2.spec.Grid.Wide a0.2.2.spec.Grid.High a0.2.2.spec.Earth.Lo a0.2.2.spec.Earth.Hi a0.2.2.spec.Radars a0.2.2.spec.Age a0.2.2.radars a0.2.2.kept a0.2.2.looks)) else (Gv aH k2 a7 a8 a9 aA aB aC aD aE aF a3 aG a4 a5 a6)
def Lq (F:Nat) (p0:top_Filed) (aM:((List Int)×Int)) (aN:((List Int)×Int)) (aO:(Bool×mosaic_Node)) (aL:(Bool×(List (mosaic_where×(List api_Span)))×(List (mosaic_where×(List api_Span))))) (k2:(Int->Int->Int->Int->Int->Int->Int->Int->Int->(List mosaic_Radar)->Int->(List (ByteArray×mosaic_Radar))->(List (mosaic_Key×(List (List api_Span))))->(List (mosaic_where×(List api_Span)))->Int->Option Bool)) (a5:Int) (a6:Int) (a7:Int) (a8:Int) (a9:Int) (aA:Int) (aB:Int) (aC:Int) (aD:Int) (a1:(List mosaic_Radar)) (aE:Int) (a2:(List (ByteArray×mosaic_Radar))) (a3:(List (mosaic_Key×(List (List api_Span))))) (a4:(List (mosaic_where×(List api_Span)))) (a0:Int):Option Bool:=(ck (2*(p0.Messages.length:Int))).bind λaJ=>bif (decide (a0<aJ)) then ((J9 a0 (p0.Messages.length:Int)).bind λaK=>bif (bif (decide (a0<(p0.Messages.length:Int))) then (decide ((p0.Order.length:Int)>0)) else false) then ((J9 a0 (p0.Order.length:Int)).bind λaG=>(Cj p0.Order aG).bind λaF=>(ck aF).bind λaH=>(J9 aH (p0.Messages.length:Int)).bind λaI=>Fq F p0 a5 a6 a7 a8 a9 aA aB aC aD a1 aE a2 a3 a4 a0 k2 aI) else (Fq F p0 a5 a6 a7 a8 a9 aA aB aC aD a1 aE a2 a3 a4 a0 k2 aK)) else (Jw F p0 aM aN aO aL a5 a6 a7 a8 a9 aA aB aC aD a1 aE a2 a3 a4)
def Ek (F:Nat) (p0:top_Filed) (a1:((List Int)×Int)) (a2:((List Int)×Int)) (a3:(Bool×mosaic_Node)) (a0:(Bool×(List (mosaic_where×(List api_Span)))×(List (mosaic_where×(List api_Span))))):Nat->Int->Int->Int->Int->Int->Int->Int->Int->Int->(List mosaic_Radar)->Int->(List (ByteArray×mosaic_Radar))->(List (mosaic_Key×(List (List api_Span))))->(List (mosaic_where×(List api_Span)))->Int->Option Bool
  | 0,_,_,_,_,_,_,_,_,_,_,_,_,_,_,_=>none
  | n+1,a8,a9,aA,aB,aC,aD,aE,aF,aG,a4,aH,a5,a6,a7,aI=>Lq F p0 a1 a2 a3 a0 (Ek F p0 a1 a2 a3 a0 n) a8 a9 aA aB aC aD aE aF aG a4 aH a5 a6 a7 aI
def Ml (F:Nat) (p0:top_Filed):Option Bool:=bif (decide ((p0.Messages.length:Int)>24)) then ((Ge F).bind λy8=>some y8) else ((Ea F p0 p0.First).bind λa8=>(Ea F p0 p0.Second).bind λa9=>(Ja F a8.1 a9.1).bind λaA=>(Ja F a9.1 a8.1).bind λaC=>bif (bif (bif (bif (a8.2 != 0) then true else (a9.2 != 0)) then true else (aA.2 != 0)) then true else (aC.2 != 0)) then (none) else ((Er F (mosaic_Spec.mk (api_Grid.mk top_filedSpec.Grid.X top_filedSpec.Grid.Y top_filedSpec.Grid.Size top_filedSpec.Grid.Wide top_filedSpec.Grid.High) (api_Span.mk top_filedSpec.Earth.Lo top_filedSpec.Earth.Hi) top_filedSpec.Radars top_filedSpec.Age)).bind λa4=>(Er F (mosaic_Spec.mk (api_Grid.mk top_filedSpec.Grid.X top_filedSpec.Grid.Y top_filedSpec.Grid.Size top_filedSpec.Grid.Wide top_filedSpec.Grid.High) (api_Span.mk top_filedSpec.Earth.Lo top_filedSpec.Earth.Hi) top_filedSpec.Radars top_filedSpec.Age)).bind λa5=>(Er F (mosaic_Spec.mk (api_Grid.mk top_filedSpec.Grid.X top_filedSpec.Grid.Y top_filedSpec.Grid.Size top_filedSpec.Grid.Wide top_filedSpec.Grid.High) (api_Span.mk top_filedSpec.Earth.Lo top_filedSpec.Earth.Hi) top_filedSpec.Radars top_filedSpec.Age)).bind λa6=>bif (bif (bif (a4.2 != 0) then true else (a5.2 != 0)) then true else (a6.2 != 0)) then (none) else ((Ci F (mosaic_Node.mk (mosaic_Spec.mk (api_Grid.mk a4.1.spec.Grid.X a4.1.spec.Grid.Y a4.1.spec.Grid.Size a4.1.spec.Grid.Wide a4.1.spec.Grid.High) (api_Span.mk a4.1.spec.Earth.Lo a4.1.spec.Earth.Hi) a4.1.spec.Radars a4.1.spec.Age) a4.1.radars a4.1.horizon a4.1.kept a4.1.count a4.1.looks) aA.1).bind λa0=>bif (!a0.1) then (none) else ((Ci F (mosaic_Node.mk (mosaic_Spec.mk (api_Grid.mk a5.1.spec.Grid.X a5.1.spec.Grid.Y a5.1.spec.Grid.Size a5.1.spec.Grid.Wide a5.1.spec.Grid.High) (api_Span.mk a5.1.spec.Earth.Lo a5.1.spec.Earth.Hi) a5.1.spec.Radars a5.1.spec.Age) a5.1.radars a5.1.horizon a5.1.kept a5.1.count a5.1.looks) a8.1).bind λa7=>bif (!a7.1) then (none) else ((Ci F (mosaic_Node.mk (mosaic_Spec.mk (api_Grid.mk a6.1.spec.Grid.X a6.1.spec.Grid.Y a6.1.spec.Grid.Size a6.1.spec.Grid.Wide a6.1.spec.Grid.High) (api_Span.mk a6.1.spec.Earth.Lo a6.1.spec.Earth.Hi) a6.1.spec.Radars a6.1.spec.Age) a6.1.radars a6.1.horizon a6.1.kept a6.1.count a6.1.looks) a9.1).bind λa1=>bif (!a1.1) then (none) else ((Eu F (mosaic_Node.mk (mosaic_Spec.mk (api_Grid.mk a7.2.spec.Grid.X a7.2.spec.Grid.Y a7.2.spec.Grid.Size a7.2.spec.Grid.Wide a7.2.spec.Grid.High) (api_Span.mk a7.2.spec.Earth.Lo a7.2.spec.Earth.Hi) a7.2.spec.Radars a7.2.spec.Age) a7.2.radars a7.2.horizon a7.2.kept a7.2.count a7.2.looks) (mosaic_Node.mk (mosaic_Spec.mk (api_Grid.mk a1.2.spec.Grid.X a1.2.spec.Grid.Y a1.2.spec.Grid.Size a1.2.spec.Grid.Wide a1.2.spec.Grid.High) (api_Span.mk a1.2.spec.Earth.Lo a1.2.spec.Earth.Hi) a1.2.spec.Radars a1.2.spec.Age) a1.2.radars a1.2.horizon a1.2.kept a1.2.count a1.2.looks)).bind λa2=>bif (a2.2.1 != 0) then (none) else ((ck p0.Time).bind λaD=>(J9 aD 120).bind λaE=>(Eb F (mosaic_Node.mk (mosaic_Spec.mk (api_Grid.mk a0.2.spec.Grid.X a0.2.spec.Grid.Y a0.2.spec.Grid.Size a0.2.spec.Grid.Wide a0.2.spec.Grid.High) (api_Span.mk a0.2.spec.Earth.Lo a0.2.spec.Earth.Hi) a0.2.spec.Radars a0.2.spec.Age) a0.2.radars a0.2.horizon a0.2.kept a0.2.count a0.2.looks) (mosaic_Node.mk (mosaic_Spec.mk (api_Grid.mk a2.2.2.spec.Grid.X a2.2.2.spec.Grid.Y a2.2.2.spec.Grid.Size a2.2.2.spec.Grid.Wide a2.2.2.spec.Grid.High) (api_Span.mk a2.2.2.spec.Earth.Lo a2.2.2.spec.Earth.Hi) a2.2.2.spec.Radars a2.2.2.spec.Age) a2.2.2.radars a2.2.2.horizon a2.2.2.kept a2.2.2.count a2.2.2.looks) aE).bind λaB=>bif (!aB.1) then (none) else ((Er F (mosaic_Spec.mk (api_Grid.mk top_filedSpec.Grid.X top_filedSpec.Grid.Y top_filedSpec.Grid.Size top_filedSpec.Grid.Wide top_filedSpec.Grid.High) (api_Span.mk top_filedSpec.Earth.Lo top_filedSpec.Earth.Hi) top_filedSpec.Radars top_filedSpec.Age)).bind λa3=>bif (a3.2 != 0) then (none) else (Ek F p0 aA aC a0 aB F a3.1.spec.Grid.X a3.1.spec.Grid.Y a3.1.horizon a3.1.count a3.1.spec.Grid.Size a3.1.spec.Grid.Wide a3.1.spec.Grid.High a3.1.spec.Earth.Lo a3.1.spec.Earth.Hi a3.1.spec.Radars a3.1.spec.Age a3.1.radars a3.1.kept a3.1.looks 0)))))))))
abbrev CL:=@Calls Tryz.prog
abbrev CR:=@Fg Tryz.prog
abbrev CP (f:FuncId) (l:Array Value) (w:World) (v:Value):Prop:=Calls Tryz.prog f l w (λe w2=>e=.returned v/\Ext w w2)
end Go.Proofs.YtjfhcbjhjeklbaaGreat
