import Derived.Test.YtkbjbnkkfifbmaaGreatS10EB
namespace Go.Proofs.YtkbjbnkkfifbmaaGreat
open Go Go.RowKit Go.Eng
set_option maxRecDepth 10000
set_option maxHeartbeats 4000000
set_option linter.unusedVariables false
set_option linter.unusedSimpArgs false
structure api_Grid where
  X:Int
  Y:Int
  Size:Int
  Wide:Int
  High:Int
  deriving Inhabited,DecidableEq
def api_Grid.cells (x:api_Grid):List Value:=[.int .i64 x.X,.int .i64 x.Y,.int .i64 x.Size,.int .i64 x.Wide,.int .i64 x.High]
structure api_Span where
  Lo:Int
  Hi:Int
  deriving Inhabited,DecidableEq
def api_Span.cells (x:api_Span):List Value:=[.int .i64 x.Lo,.int .i64 x.Hi]
theorem api_Span.cells_len (x:api_Span):(api_Span.cells x).length=2:=rfl
structure api_Site where
  Name:ByteArray
  X:Int
  Y:Int
  Z:Int
  Rose:Int
  Gates:Int
  Step:Int
  Width:Int
  deriving Inhabited,DecidableEq
def api_Site.cells (x:api_Site):List Value:=[.string x.Name,.int .i64 x.X,.int .i64 x.Y,.int .i64 x.Z,.int .i64 x.Rose,.int .i64 x.Gates,.int .i64 x.Step,.int .i64 x.Width]
structure mosaic_Radar where
  Site:api_Site
  Offset:api_Span
  deriving Inhabited,DecidableEq
def mosaic_Radar.cells (x:mosaic_Radar):List Value:=[.string x.Site.Name,.int .i64 x.Site.X,.int .i64 x.Site.Y,.int .i64 x.Site.Z,.int .i64 x.Site.Rose,.int .i64 x.Site.Gates,.int .i64 x.Site.Step,.int .i64 x.Site.Width,.int .i64 x.Offset.Lo,.int .i64 x.Offset.Hi]
theorem mosaic_Radar.cells_len (x:mosaic_Radar):(mosaic_Radar.cells x).length=10:=rfl
structure mosaic_Spec where
  Grid:api_Grid
  Earth:api_Span
  Radars:(List mosaic_Radar)
  Age:Int
  deriving Inhabited,DecidableEq
structure mosaic_Key where
  Name:ByteArray
  Tilt:Int
  Time:Int
  deriving Inhabited,DecidableEq
def mosaic_Key.cells (x:mosaic_Key):List Value:=[.string x.Name,.int .i64 x.Tilt,.int .i64 x.Time]
theorem mosaic_Key.cells_len (x:mosaic_Key):(mosaic_Key.cells x).length=3:=rfl
structure mosaic_where where
  name:ByteArray
  tilt:Int
  deriving Inhabited,DecidableEq
def mosaic_where.cells (x:mosaic_where):List Value:=[.string x.name,.int .i64 x.tilt]
structure mosaic_Node where
  spec:mosaic_Spec
  radars:(List (ByteArray×mosaic_Radar))
  horizon:Int
  kept:(List (mosaic_Key×(List (List api_Span))))
  count:Int
  looks:(List (mosaic_where×(List api_Span)))
  deriving Inhabited,DecidableEq
structure mosaic_Message where
  Key:mosaic_Key
  Vals:(List api_Span)
  deriving Inhabited,DecidableEq
structure beam_slant where
  c:Int
  s:Int
  d:Int
  deriving Inhabited,DecidableEq
def beam_slant.cells (x:beam_slant):List Value:=[.int .i64 x.c,.int .i64 x.s,.int .i64 x.d]
structure beam_vector where
  x:Int
  y:Int
  length:Int
  deriving Inhabited,DecidableEq
def beam_vector.cells (x:beam_vector):List Value:=[.int .i64 x.x,.int .i64 x.y,.int .i64 x.length]
structure mosaic_used where
  Key:mosaic_Key
  vals:(List api_Span)
  bands:(List api_Span)
  deriving Inhabited,DecidableEq
structure mosaic_Pixel where
  Value_:api_Span
  Key:mosaic_Key
  deriving Inhabited,DecidableEq
def mosaic_Pixel.cells (x:mosaic_Pixel):List Value:=[.int .i64 x.Value_.Lo,.int .i64 x.Value_.Hi,.string x.Key.Name,.int .i64 x.Key.Tilt,.int .i64 x.Key.Time]
theorem mosaic_Pixel.cells_len (x:mosaic_Pixel):(mosaic_Pixel.cells x).length=5:=rfl
structure law11_Station where
  X:Int
  Y:Int
  Z:Int
  Rose:Int
  Gates:Int
  Width:Int
  Lo:Int
  Hi:Int
  deriving Inhabited,DecidableEq
def law11_Station.cells (x:law11_Station):List Value:=[.int .i16 x.X,.int .i16 x.Y,.int .u16 x.Z,.int .u8 x.Rose,.int .u8 x.Gates,.int .u8 x.Width,.int .u16 x.Lo,.int .u16 x.Hi]
structure law11_Net where
  Wide:Int
  High:Int
  Stations:(law11_Station×law11_Station×law11_Station)
  Count:Int
  Age:Int
  deriving Inhabited,DecidableEq
def law11_Net.cells (x:law11_Net):List Value:=[.int .u8 x.Wide,.int .u8 x.High,.int .i16 x.Stations.1.X,.int .i16 x.Stations.1.Y,.int .u16 x.Stations.1.Z,.int .u8 x.Stations.1.Rose,.int .u8 x.Stations.1.Gates,.int .u8 x.Stations.1.Width,.int .u16 x.Stations.1.Lo,.int .u16 x.Stations.1.Hi,.int .i16 x.Stations.2.1.X,.int .i16 x.Stations.2.1.Y,.int .u16 x.Stations.2.1.Z,.int .u8 x.Stations.2.1.Rose,.int .u8 x.Stations.2.1.Gates,.int .u8 x.Stations.2.1.Width,.int .u16 x.Stations.2.1.Lo,.int .u16 x.Stations.2.1.Hi,.int .i16 x.Stations.2.2.X,.int .i16 x.Stations.2.2.Y,.int .u16 x.Stations.2.2.Z,.int .u8 x.Stations.2.2.Rose,.int .u8 x.Stations.2.2.Gates,.int .u8 x.Stations.2.2.Width,.int .u16 x.Stations.2.2.Lo,.int .u16 x.Stations.2.2.Hi,.int .u8 x.Count,.int .u16 x.Age]
structure law11_Post where
  Radar:Int
  Tilt:Int
  Time:Int
  Vals:(List Int)
  Wide:Int
  deriving Inhabited,DecidableEq
structure mosaic_Clash where
  Pixel:Int
  A:mosaic_Key
  B:mosaic_Key
  deriving Inhabited,DecidableEq
def mosaic_Clash.cells (x:mosaic_Clash):List Value:=[.int .i64 x.Pixel,.string x.A.Name,.int .i64 x.A.Tilt,.int .i64 x.A.Time,.string x.B.Name,.int .i64 x.B.Tilt,.int .i64 x.B.Time]
theorem mosaic_Clash.cells_len (x:mosaic_Clash):(mosaic_Clash.cells x).length=7:=rfl
structure mosaic_reader where
  left:(List Int)
  deriving Inhabited,DecidableEq
abbrev api_Grid.ar (x:api_Grid):Array Value:=#[.int .i64 x.X,.int .i64 x.Y,.int .i64 x.Size,.int .i64 x.Wide,.int .i64 x.High]
abbrev api_Grid.ag (x:api_Grid):Value:=.agg #[.int .i64 x.X,.int .i64 x.Y,.int .i64 x.Size,.int .i64 x.Wide,.int .i64 x.High]
abbrev api_Site.ar (x:api_Site):Array Value:=#[.string x.Name,.int .i64 x.X,.int .i64 x.Y,.int .i64 x.Z,.int .i64 x.Rose,.int .i64 x.Gates,.int .i64 x.Step,.int .i64 x.Width]
abbrev api_Site.ag (x:api_Site):Value:=.agg #[.string x.Name,.int .i64 x.X,.int .i64 x.Y,.int .i64 x.Z,.int .i64 x.Rose,.int .i64 x.Gates,.int .i64 x.Step,.int .i64 x.Width]
abbrev mosaic_Radar.ar (x:mosaic_Radar):Array Value:=#[.string x.Site.Name,.int .i64 x.Site.X,.int .i64 x.Site.Y,.int .i64 x.Site.Z,.int .i64 x.Site.Rose,.int .i64 x.Site.Gates,.int .i64 x.Site.Step,.int .i64 x.Site.Width,.int .i64 x.Offset.Lo,.int .i64 x.Offset.Hi]
abbrev mosaic_Radar.ag (x:mosaic_Radar):Value:=.agg #[.string x.Site.Name,.int .i64 x.Site.X,.int .i64 x.Site.Y,.int .i64 x.Site.Z,.int .i64 x.Site.Rose,.int .i64 x.Site.Gates,.int .i64 x.Site.Step,.int .i64 x.Site.Width,.int .i64 x.Offset.Lo,.int .i64 x.Offset.Hi]
abbrev mosaic_Key.ar (x:mosaic_Key):Array Value:=#[.string x.Name,.int .i64 x.Tilt,.int .i64 x.Time]
abbrev mosaic_Key.ag (x:mosaic_Key):Value:=.agg #[.string x.Name,.int .i64 x.Tilt,.int .i64 x.Time]
abbrev beam_slant.ar (x:beam_slant):Array Value:=#[.int .i64 x.c,.int .i64 x.s,.int .i64 x.d]
abbrev beam_slant.ag (x:beam_slant):Value:=.agg #[.int .i64 x.c,.int .i64 x.s,.int .i64 x.d]
abbrev beam_vector.ar (x:beam_vector):Array Value:=#[.int .i64 x.x,.int .i64 x.y,.int .i64 x.length]
abbrev beam_vector.ag (x:beam_vector):Value:=.agg #[.int .i64 x.x,.int .i64 x.y,.int .i64 x.length]
abbrev mosaic_Pixel.ar (x:mosaic_Pixel):Array Value:=#[.int .i64 x.Value_.Lo,.int .i64 x.Value_.Hi,.string x.Key.Name,.int .i64 x.Key.Tilt,.int .i64 x.Key.Time]
abbrev mosaic_Pixel.ag (x:mosaic_Pixel):Value:=.agg #[.int .i64 x.Value_.Lo,.int .i64 x.Value_.Hi,.string x.Key.Name,.int .i64 x.Key.Tilt,.int .i64 x.Key.Time]
abbrev law11_Station.ar (x:law11_Station):Array Value:=#[.int .i16 x.X,.int .i16 x.Y,.int .u16 x.Z,.int .u8 x.Rose,.int .u8 x.Gates,.int .u8 x.Width,.int .u16 x.Lo,.int .u16 x.Hi]
abbrev law11_Station.ag (x:law11_Station):Value:=.agg #[.int .i16 x.X,.int .i16 x.Y,.int .u16 x.Z,.int .u8 x.Rose,.int .u8 x.Gates,.int .u8 x.Width,.int .u16 x.Lo,.int .u16 x.Hi]
abbrev law11_Net.ar (x:law11_Net):Array Value:=#[.int .u8 x.Wide,.int .u8 x.High,.int .i16 x.Stations.1.X,.int .i16 x.Stations.1.Y,.int .u16 x.Stations.1.Z,.int .u8 x.Stations.1.Rose,.int .u8 x.Stations.1.Gates,.int .u8 x.Stations.1.Width,.int .u16 x.Stations.1.Lo,.int .u16 x.Stations.1.Hi,.int .i16 x.Stations.2.1.X,.int .i16 x.Stations.2.1.Y,.int .u16 x.Stations.2.1.Z,.int .u8 x.Stations.2.1.Rose,.int .u8 x.Stations.2.1.Gates,.int .u8 x.Stations.2.1.Width,.int .u16 x.Stations.2.1.Lo,.int .u16 x.Stations.2.1.Hi,.int .i16 x.Stations.2.2.X,.int .i16 x.Stations.2.2.Y,.int .u16 x.Stations.2.2.Z,.int .u8 x.Stations.2.2.Rose,.int .u8 x.Stations.2.2.Gates,.int .u8 x.Stations.2.2.Width,.int .u16 x.Stations.2.2.Lo,.int .u16 x.Stations.2.2.Hi,.int .u8 x.Count,.int .u16 x.Age]
abbrev law11_Net.ag (x:law11_Net):Value:=.agg #[.int .u8 x.Wide,.int .u8 x.High,.int .i16 x.Stations.1.X,.int .i16 x.Stations.1.Y,.int .u16 x.Stations.1.Z,.int .u8 x.Stations.1.Rose,.int .u8 x.Stations.1.Gates,.int .u8 x.Stations.1.Width,.int .u16 x.Stations.1.Lo,.int .u16 x.Stations.1.Hi,.int .i16 x.Stations.2.1.X,.int .i16 x.Stations.2.1.Y,.int .u16 x.Stations.2.1.Z,.int .u8 x.Stations.2.1.Rose,.int .u8 x.Stations.2.1.Gates,.int .u8 x.Stations.2.1.Width,.int .u16 x.Stations.2.1.Lo,.int .u16 x.Stations.2.1.Hi,.int .i16 x.Stations.2.2.X,.int .i16 x.Stations.2.2.Y,.int .u16 x.Stations.2.2.Z,.int .u8 x.Stations.2.2.Rose,.int .u8 x.Stations.2.2.Gates,.int .u8 x.Stations.2.2.Width,.int .u16 x.Stations.2.2.Lo,.int .u16 x.Stations.2.2.Hi,.int .u8 x.Count,.int .u16 x.Age]
abbrev mosaic_Clash.ar (x:mosaic_Clash):Array Value:=#[.int .i64 x.Pixel,.string x.A.Name,.int .i64 x.A.Tilt,.int .i64 x.A.Time,.string x.B.Name,.int .i64 x.B.Tilt,.int .i64 x.B.Time]
abbrev mosaic_Node.ax (x:mosaic_Node) (adg1_:Option Addr) (capg2_:Nat) (mg3_:Nat) (mg4_:Nat) (mg5_:Nat):Array Value:=#[.int .i64 x.spec.Grid.X,.int .i64 x.spec.Grid.Y,.int .i64 x.spec.Grid.Size,.int .i64 x.spec.Grid.Wide,.int .i64 x.spec.Grid.High,.int .i64 x.spec.Earth.Lo,.int .i64 x.spec.Earth.Hi,.slice adg1_ x.spec.Radars.length capg2_,.int .i64 x.spec.Age,.map (some mg3_),.int .i64 x.horizon,.map (some mg4_),.int .i64 x.count,.map (some mg5_)]
abbrev mosaic_Spec.ax (x:mosaic_Spec) (adg1_:Option Addr) (capg2_:Nat):Array Value:=#[.int .i64 x.Grid.X,.int .i64 x.Grid.Y,.int .i64 x.Grid.Size,.int .i64 x.Grid.Wide,.int .i64 x.Grid.High,.int .i64 x.Earth.Lo,.int .i64 x.Earth.Hi,.slice adg1_ x.Radars.length capg2_,.int .i64 x.Age]
abbrev mosaic_used.ax (x:mosaic_used) (adg1_:Option Addr) (capg2_:Nat) (adg3_:Option Addr) (capg4_:Nat):Array Value:=#[.string x.Key.Name,.int .i64 x.Key.Tilt,.int .i64 x.Key.Time,.slice adg1_ x.vals.length capg2_,.slice adg3_ x.bands.length capg4_]
abbrev law11_Post.ax (x:law11_Post) (adg1_:Option Addr) (capg2_:Nat):Array Value:=#[.int .u8 x.Radar,.int .u8 x.Tilt,.int .u16 x.Time,.slice adg1_ x.Vals.length capg2_,.int .u8 x.Wide]
abbrev api_Grid.e0 (x:api_Grid):Bool:=(((x.X:Int)==0)&&(((x.Y:Int)==0)&&(((x.Size:Int)==0)&&(((x.Wide:Int)==0)&&(((x.High:Int)==0)&&true)))))
abbrev api_Site.e0 (x:api_Site):Bool:=((x.Name==ByteArray.empty)&&(((x.X:Int)==0)&&(((x.Y:Int)==0)&&(((x.Z:Int)==0)&&(((x.Rose:Int)==0)&&(((x.Gates:Int)==0)&&(((x.Step:Int)==0)&&(((x.Width:Int)==0)&&true))))))))
abbrev mosaic_Radar.e0 (x:mosaic_Radar):Bool:=((x.Site.Name==ByteArray.empty)&&(((x.Site.X:Int)==0)&&(((x.Site.Y:Int)==0)&&(((x.Site.Z:Int)==0)&&(((x.Site.Rose:Int)==0)&&(((x.Site.Gates:Int)==0)&&(((x.Site.Step:Int)==0)&&(((x.Site.Width:Int)==0)&&(((x.Offset.Lo:Int)==0)&&(((x.Offset.Hi:Int)==0)&&true))))))))))
abbrev mosaic_Key.e0 (x:mosaic_Key):Bool:=((x.Name==ByteArray.empty)&&(((x.Tilt:Int)==0)&&(((x.Time:Int)==0)&&true)))
abbrev beam_slant.e0 (x:beam_slant):Bool:=(((x.c:Int)==0)&&(((x.s:Int)==0)&&(((x.d:Int)==0)&&true)))
abbrev beam_vector.e0 (x:beam_vector):Bool:=(((x.x:Int)==0)&&(((x.y:Int)==0)&&(((x.length:Int)==0)&&true)))
abbrev mosaic_Pixel.e0 (x:mosaic_Pixel):Bool:=(((x.Value_.Lo:Int)==0)&&(((x.Value_.Hi:Int)==0)&&((x.Key.Name==ByteArray.empty)&&(((x.Key.Tilt:Int)==0)&&(((x.Key.Time:Int)==0)&&true)))))
abbrev law11_Station.e0 (x:law11_Station):Bool:=(((x.X:Int)==0)&&(((x.Y:Int)==0)&&(((x.Z:Int)==0)&&(((x.Rose:Int)==0)&&(((x.Gates:Int)==0)&&(((x.Width:Int)==0)&&(((x.Lo:Int)==0)&&(((x.Hi:Int)==0)&&true))))))))
abbrev law11_Net.e0 (x:law11_Net):Bool:=(((x.Wide:Int)==0)&&(((x.High:Int)==0)&&(((x.Stations.1.X:Int)==0)&&(((x.Stations.1.Y:Int)==0)&&(((x.Stations.1.Z:Int)==0)&&(((x.Stations.1.Rose:Int)==0)&&(((x.Stations.1.Gates:Int)==0)&&(((x.Stations.1.Width:Int)==0)&&(((x.Stations.1.Lo:Int)==0)&&(((x.Stations.1.Hi:Int)==0)&&(((x.Stations.2.1.X:Int)==0)&&(((x.Stations.2.1.Y:Int)==0)&&(((x.Stations.2.1.Z:Int)==0)&&(((x.Stations.2.1.Rose:Int)==0)&&(((x.Stations.2.1.Gates:Int)==0)&&(((x.Stations.2.1.Width:Int)==0)&&(((x.Stations.2.1.Lo:Int)==0)&&(((x.Stations.2.1.Hi:Int)==0)&&(((x.Stations.2.2.X:Int)==0)&&(((x.Stations.2.2.Y:Int)==0)&&(((x.Stations.2.2.Z:Int)==0)&&(((x.Stations.2.2.Rose:Int)==0)&&(((x.Stations.2.2.Gates:Int)==0)&&(((x.Stations.2.2.Width:Int)==0)&&(((x.Stations.2.2.Lo:Int)==0)&&(((x.Stations.2.2.Hi:Int)==0)&&(((x.Count:Int)==0)&&(((x.Age:Int)==0)&&true))))))))))))))))))))))))))))
abbrev mosaic_Clash.e0 (x:mosaic_Clash):Bool:=(((x.Pixel:Int)==0)&&((x.A.Name==ByteArray.empty)&&(((x.A.Tilt:Int)==0)&&(((x.A.Time:Int)==0)&&((x.B.Name==ByteArray.empty)&&(((x.B.Tilt:Int)==0)&&(((x.B.Time:Int)==0)&&true)))))))
abbrev A3f:Array Value:=#[.string ByteArray.empty,.int .i64 0,.int .i64 0,.int .i64 0,.int .i64 0,.int .i64 0,.int .i64 0,.int .i64 0,.int .i64 0,.int .i64 0]
abbrev z37:Array Value:=#[.int .i64 0,.int .i64 0,.int .i64 0,.int .i64 0,.int .i64 0,.int .i64 0,.int .i64 0,.slice none 0 0,.int .i64 0]
abbrev Xt:Array Value:=#[.string ByteArray.empty,.int .i64 0,.int .i64 0,.int .i64 0,.int .i64 0,.int .i64 0,.int .i64 0,.int .i64 0]
abbrev z25:Array Value:=#[.int .i16 0,.int .i16 0,.int .u16 0,.int .u8 0,.int .u8 0,.int .u8 0,.int .u16 0,.int .u16 0]
abbrev A6p:Array Value:=#[.string ByteArray.empty,.int .i64 0,.int .i64 0,.slice none 0 0,.slice none 0 0]
abbrev z66:Array Value:=#[.int .i64 0,.int .i64 0,.string ByteArray.empty,.int .i64 0,.int .i64 0]
abbrev z49:Array Value:=#[.string ByteArray.empty,.int .i64 0,.int .i64 0,.slice none 0 0]
def Rp47:Rel (List api_Span):=fun μ cs x=>∃(ad1:Option Addr) (cap2:Nat),cs=[.slice ad1 x.length cap2]∧ArrM μ 2 api_Span.cells ad1 cap2 x
theorem Rp47.mono:Rel.Mono Rp47:=by
  intro μ ν cs x hle h;obtain ⟨ad1,cap2,rfl,f0⟩:=h;exact ⟨ad1,cap2,rfl,f0.mono hle⟩
theorem Rp47.one:Rel.One 1 Rp47:=by
  intro μ cs x h;obtain ⟨ad1,cap2,rfl,f0⟩:=h
  all_goals rfl
def Rp155:Rel mosaic_used:=fun μ cs x=>∃(ad1:Option Addr) (cap2:Nat) (ad3:Option Addr) (cap4:Nat),cs=[.string x.Key.Name,.int .i64 x.Key.Tilt,.int .i64 x.Key.Time,.slice ad1 x.vals.length cap2,.slice ad3 x.bands.length cap4]∧ArrM μ 2 api_Span.cells ad1 cap2 x.vals∧ArrM μ 2 api_Span.cells ad3 cap4 x.bands
theorem Rp155.mono:Rel.Mono Rp155:=by
  intro μ ν cs x hle h;obtain ⟨ad1,cap2,ad3,cap4,rfl,f0,f1⟩:=h;exact ⟨ad1,cap2,ad3,cap4,rfl,f0.mono hle,f1.mono hle⟩
theorem Rp155.one:Rel.One 5 Rp155:=by
  intro μ cs x h;obtain ⟨ad1,cap2,ad3,cap4,rfl,f0,f1⟩:=h
  all_goals rfl
def Rp49:Rel mosaic_Message:=fun μ cs x=>∃(ad1:Option Addr) (cap2:Nat),cs=[.string x.Key.Name,.int .i64 x.Key.Tilt,.int .i64 x.Key.Time,.slice ad1 x.Vals.length cap2]∧ArrM μ 2 api_Span.cells ad1 cap2 x.Vals
theorem Rp49.mono:Rel.Mono Rp49:=by
  intro μ ν cs x hle h;obtain ⟨ad1,cap2,rfl,f0⟩:=h;exact ⟨ad1,cap2,rfl,f0.mono hle⟩
theorem Rp49.one:Rel.One 4 Rp49:=by
  intro μ cs x h;obtain ⟨ad1,cap2,rfl,f0⟩:=h
  all_goals rfl
def Rp52:Rel law11_Post:=fun μ cs x=>∃(ad1:Option Addr) (cap2:Nat),cs=[.int .u8 x.Radar,.int .u8 x.Tilt,.int .u16 x.Time,.slice ad1 x.Vals.length cap2,.int .u8 x.Wide]∧ArrM μ 1 (fK .u16) ad1 cap2 x.Vals
theorem Rp52.mono:Rel.Mono Rp52:=by
  intro μ ν cs x hle h;obtain ⟨ad1,cap2,rfl,f0⟩:=h;exact ⟨ad1,cap2,rfl,f0.mono hle⟩
def Hr (p0:ByteArray):Bool:=A5x p0
def or3 (x y z:Int):Int:=if x≠0 then x else if y≠0 then y else z
def Gb (x y:mosaic_Key):Int:=or3 (if x.Time<y.Time then -1 else if y.Time<x.Time then 1 else 0) (if Rh x.Name y.Name then -1 else if Qy x.Name y.Name then 1 else 0) (if x.Tilt<y.Tilt then -1 else if y.Tilt<x.Tilt then 1 else 0)
def Cp (l:List mosaic_Key):List mosaic_Key:=Tv Gb l
def Dt (F:Nat) (p0:mosaic_Node):Option (List mosaic_Key):=if p0.kept.length≤1000000 then some (Cp (p0.kept.map (·.1))) else none
def K6 (F:Nat) (p0:List (List api_Span)) (p1:Int) (p2:List (List api_Span)):Option (List (List api_Span)):=if 0≤p1∧p1≤(p0.length:Int)∧p2.length=1∧p0.length≤1000000 then some (p0.take p1.toNat++p2++p0.drop p1.toNat) else none
def F1 (F:Nat) (p0:mosaic_Node):Option (List mosaic_Key):=if p0.kept.length≤1000000 then some ((Cp (p0.kept.map (·.1))).filter fun k=>!decide ((((lkM p0.kept k).getD []).length:Int)<2)) else none
def Aa (p0:Int) (p1:Int) (p2:Int):Bool :=
  bif (decide (p1≤p0)) then (decide (p0≤p2)) else false
def Cy (c2:Bool):Int :=
  bif c2 then (3) else (0)
def Bw (p0:api_Grid):Int :=
  bif (!(Aa p0.X (-1048576) 1048576)) then (Cy (!(Aa p0.X (-1048576) 1048576))) else (bif (!(Aa p0.Y (-1048576) 1048576)) then (Cy (!(Aa p0.Y (-1048576) 1048576))) else (bif (!(Aa p0.Size 1 10000)) then (Cy (!(Aa p0.Size 1 10000))) else (bif (!(Aa p0.Wide 1 64)) then (Cy (!(Aa p0.Wide 1 64))) else (Cy (!(Aa p0.High 1 64))))))
def C8 (p0:api_Span) (p1:Int) (p2:Int):Bool :=
  bif (bif (decide (p1≤p0.Lo)) then (decide (p0.Lo≤p0.Hi)) else false) then (decide (p0.Hi≤p2)) else false
def Bs (p0:Int) (p1:Int) (p2:Int):Bool :=
  bif (decide (p1≤p0)) then (decide (p0≤p2)) else false
def Ms (F:Nat) (p0:ByteArray):Option Bool :=
  (gd (((bif (!(sEq p0 (⟨#[]⟩:ByteArray))) then (decide (((p0.size:Nat):Int)≤12)) else false)==true&&true)) (A2a p0 (0:Int)) default).bind fun u1 =>
  (gd (((bif (bif (!(sEq p0 (⟨#[]⟩:ByteArray))) then (decide (((p0.size:Nat):Int)≤12)) else false) then (decide (u1≥97)) else false)==true&&true)) (A2a p0 (0:Int)) default).bind fun u2 =>
  some (bif (bif (bif (bif (!(sEq p0 (⟨#[]⟩:ByteArray))) then (decide (((p0.size:Nat):Int)≤12)) else false) then (decide (u1≥97)) else false) then (decide (u2≤122)) else false) then (!(Hr p0)) else false)
def Dm (c4:Bool):Option Int :=
  bif c4 then (some 3) else (some 0)
def Ef (p0:api_Site) (c3:Bool):Option Int :=
  bif c3 then (some 3) else (bif (!(Aa p0.Rose 1 90)) then (Dm (!(Aa p0.Rose 1 90))) else (bif (!(Aa p0.Gates 1 200)) then (Dm (!(Aa p0.Gates 1 200))) else (bif (!(Aa p0.Step 50 2000)) then (Dm (!(Aa p0.Step 50 2000))) else (Dm (!(Aa p0.Width 0 8))))))
def beam_CheckSite (F:Nat) (p0:api_Site):Option Int :=
  (Ms F p0.Name).bind fun y2 =>
  bif (!y2) then (some 10) else (bif (!(Aa p0.X (-1048576) 1048576)) then (Ef p0 (!(Aa p0.X (-1048576) 1048576))) else (bif (!(Aa p0.Y (-1048576) 1048576)) then (Ef p0 (!(Aa p0.Y (-1048576) 1048576))) else (Ef p0 (!(Aa p0.Z 0 20000)))))
def L5 (a0:(List (ByteArray×Bool))):Option Int :=
  some 0
def J7 (F:Nat) (p0:mosaic_Spec) (k2:((List (ByteArray×Bool))→Int→Option Int)) (a1:(List (ByteArray×Bool))) (a2:Int):Option Int :=
  bif (decide (a2<((p0.Radars.length:Nat):Int))) then ((Bo p0.Radars a2).bind fun a0 =>
  (beam_CheckSite F a0.Site).bind fun a3 =>
  bif (a3 != 0) then (some a3) else (bif ((lkM a1 a0.Site.Name).getD false) then (some 5) else (bif (!(C8 a0.Offset (-3600) 3600)) then (some 3) else ((ck (a2+1)).bind fun a4 =>
  k2 (upM a1 a0.Site.Name true) a4)))) else (L5 a1)
def Fc (F:Nat) (p0:mosaic_Spec):Nat→(List (ByteArray×Bool))→Int→Option Int
  | 0,_,_=>none
  | n+1,a0,a1=>J7 F p0 (Fc F p0 n) a0 a1
def K0 (F:Nat) (p0:mosaic_Spec):Option Int :=
  bif ((Bw p0.Grid) != 0) then (some (Bw p0.Grid)) else (bif (bif (!(C8 p0.Earth 1000000 100000000)) then true else (!(Bs p0.Age 1 86400))) then (some 3) else (bif (((p0.Radars.length:Nat):Int)==0) then (some 18) else (bif (decide (((p0.Radars.length:Nat):Int)>32)) then (some 9) else (Fc F p0 F ([]:List (ByteArray×Bool)) 0))))
def Bh (F:Nat) (p0:(List mosaic_Radar)):Option (List mosaic_Radar) :=
  (apd 88 ([]:List mosaic_Radar) p0).bind fun l5 =>
  some l5
def Ml (p0:mosaic_Spec) (y7:(List mosaic_Radar)) (a0:(List (ByteArray×mosaic_Radar))):Option (Except Int (mosaic_Node×Int)) :=
  some (.ok ((mosaic_Node.mk (mosaic_Spec.mk p0.Grid p0.Earth y7 p0.Age) a0 0 ([]:List (mosaic_Key×(List (List api_Span)))) 0 ([]:List (mosaic_where×(List api_Span)))),0))
def Kr (p0:mosaic_Spec) (y7:(List mosaic_Radar)) (k2:((List (ByteArray×mosaic_Radar))→Int→Option (Except Int (mosaic_Node×Int)))) (a1:(List (ByteArray×mosaic_Radar))) (a0:Int):Option (Except Int (mosaic_Node×Int)) :=
  bif (decide (a0<((y7.length:Nat):Int))) then ((Bo y7 a0).bind fun a2 =>
  (ck (a0+1)).bind fun a3 =>
  k2 (upM a1 a2.Site.Name a2) a3) else (Ml p0 y7 a1)
def Hc (p0:mosaic_Spec) (y7:(List mosaic_Radar)):Nat→(List (ByteArray×mosaic_Radar))→Int→Option (Except Int (mosaic_Node×Int))
  | 0,_,_=>none
  | n+1,a0,a1=>Kr p0 y7 (Hc p0 y7 n) a0 a1
def Hq (F:Nat) (p0:mosaic_Spec):Option (Except Int (mosaic_Node×Int)) :=
  (K0 F p0).bind fun y5 =>
  bif (y5 != 0) then (some (.error y5)) else ((Bh F p0.Radars).bind fun y7 =>
  Hc p0 y7 F ([]:List (ByteArray×mosaic_Radar)) 0)
def B5 (F:Nat) (p0:mosaic_Node):Option Bool :=
  some false
def He:Option Int :=
  some 0
def Dx (p1:mosaic_Message) (k2:(Int→Option Int)) (a0:Int):Option Int :=
  bif (decide (a0<((p1.Vals.length:Nat):Int))) then ((Bo p1.Vals a0).bind fun a1 =>
  bif (!(C8 a1 0 1000000)) then (some 3) else ((ck (a0+1)).bind fun a2 =>
  k2 a2)) else (He)
def C1 (p1:mosaic_Message):Nat→Int→Option Int
  | 0,_=>none
  | n+1,a0=>Dx p1 (C1 p1 n) a0
def Dd (F:Nat) (p0:mosaic_Node) (p1:mosaic_Message):Option Int :=
  bif (!((lkM p0.radars p1.Key.Name).isSome)) then (some 4) else (bif (bif (!(Bs p1.Key.Tilt 0 256)) then true else (!(Bs p1.Key.Time 0 4294967296))) then (some 3) else ((ck (p0.spec.Grid.Wide*p0.spec.Grid.High)).bind fun a0 =>
  bif (((p1.Vals.length:Nat):Int) != a0) then (some 11) else (C1 p1 F 0)))
def Mh:Option Int :=
  some 0
def Kp (p0:(List Int)) (k2:(Int→Option Int)) (a0:Int):Option Int :=
  bif (decide (a0<((p0.length:Nat):Int))) then ((Bo p0 a0).bind fun a1 =>
  bif (a1 != 0) then (some a1) else ((ck (a0+1)).bind fun a2 =>
  k2 a2)) else (Mh)
def Hb (p0:(List Int)):Nat→Int→Option Int
  | 0,_=>none
  | n+1,a0=>Kp p0 (Hb p0 n) a0
def Ll (F:Nat) (p0:(List Int)):Option Int :=
  Hb p0 F 0
def D1 (p0:Int):Bool :=
  p0 != p0
def Af (p0:Int) (p1:Int):Int :=
  bif (D1 p0) then (bif (D1 p1) then (0) else (-1)) else (bif (D1 p1) then (1) else (bif (decide (p0<p1)) then (-1) else (bif (decide (p0>p1)) then (1) else (0))))
def Gj (F:Nat) (p0:api_Span) (p1:api_Span):Option Int :=
  (Ll F ([(Af p0.Lo p1.Lo),(Af p0.Hi p1.Hi)])).bind fun y4 =>
  some y4
def Ar (p0:(List api_Span)) (p1:(List api_Span)):Option Int :=
  bif (decide (((p0.length:Nat):Int)<((p1.length:Nat):Int))) then (some (-1)) else (some 0)
def Aq (F:Nat) (p0:(List api_Span)) (p1:(List api_Span)) (k2:(Int→Option Int)) (a0:Int):Option Int :=
  bif (decide (a0<((p0.length:Nat):Int))) then ((Bo p0 a0).bind fun a2 =>
  bif (decide (a0≥((p1.length:Nat):Int))) then (some 1) else ((Bo p1 a0).bind fun a3 =>
  (Gj F a2 a3).bind fun a1 =>
  bif (a1 != 0) then (some a1) else ((ck (a0+1)).bind fun a4 =>
  k2 a4))) else (Ar p0 p1)
def Ae (F:Nat) (p0:(List api_Span)) (p1:(List api_Span)):Nat→Int→Option Int
  | 0,_=>none
  | n+1,a0=>Aq F p0 p1 (Ae F p0 p1 n) a0
def Aw (F:Nat) (p0:(List api_Span)) (p1:(List api_Span)):Option Int :=
  Ae F p0 p1 F 0
def Gi (F:Nat) (p0:(List api_Span)) (p1:(List api_Span)):Option Int :=
  (Aw F p0 p1).bind fun y8 =>
  some y8
def B0 (F:Nat) (p0:(List (List api_Span))) (p1:(List api_Span)) (a0:Int):Option (Int×Bool) :=
  bif (decide (a0<((p0.length:Nat):Int))) then ((Bo p0 a0).bind fun a1 =>
  (Gi F a1 p1).bind fun a2 =>
  some (a0,a2==0)) else (some (a0,false))
def Az (F:Nat) (p0:(List (List api_Span))) (p1:(List api_Span)) (k2:(Int→Int→Option (Int×Bool))) (a1:Int) (a0:Int):Option (Int×Bool) :=
  bif (decide (a0<a1)) then ((ck (a0+a1)).bind fun a4 =>
  (ck (Int.fdiv (IntKind.u64.wrap a4) 2)).bind fun a2 =>
  (Bo p0 a2).bind fun a3 =>
  (Gi F a3 p1).bind fun a6 =>
  bif (decide (a6<0)) then ((ck (a2+1)).bind fun a5 =>
  k2 a1 a5) else (k2 a2 a0)) else (B0 F p0 p1 a0)
def Ah (F:Nat) (p0:(List (List api_Span))) (p1:(List api_Span)):Nat→Int→Int→Option (Int×Bool)
  | 0,_,_=>none
  | n+1,a0,a1=>Az F p0 p1 (Ah F p0 p1 n) a0 a1
def B7 (F:Nat) (p0:(List (List api_Span))) (p1:(List api_Span)):Option (Int×Bool) :=
  Ah F p0 p1 F ((p0.length:Nat):Int) 0
def Cn (F:Nat) (p0:mosaic_Node) (p1:mosaic_Message):Option (Int×Bool) :=
  (B7 F ((lkM p0.kept p1.Key).getD []) p1.Vals).bind fun a0 =>
  some (a0.1,a0.2)
def C6 (F:Nat) (p0:(List (List api_Span))):Option (List (List api_Span)) :=
  (apd 24 ([]:List (List api_Span)) p0).bind fun l7 =>
  some l7
def Bc (F:Nat) (p0:(List api_Span)):Option (List api_Span) :=
  (apd 16 ([]:List api_Span) p0).bind fun l5 =>
  some l5
def Gk (F:Nat) (p0:mosaic_Node) (p1:mosaic_Message):Option mosaic_Node :=
  (Cn F p0 p1).bind fun a1 =>
  (C6 F ((lkM p0.kept p1.Key).getD [])).bind fun a2 =>
  (Bc F p1.Vals).bind fun a3 =>
  (K6 F a2 a1.1 ([a3])).bind fun a4 =>
  (ck (p0.count+1)).bind fun a0 =>
  some (mosaic_Node.mk p0.spec p0.radars p0.horizon (upM p0.kept p1.Key a4) a0 p0.looks)
def Ax (F:Nat) (p0:mosaic_Node) (p1:mosaic_Message):Option (Bool×Int×mosaic_Node) :=
  (B5 F p0).bind fun a1 =>
  bif a1 then (some (false,1,p0)) else ((Dd F p0 p1).bind fun a0 =>
  bif (a0 != 0) then (some (false,a0,p0)) else (bif (decide (p1.Key.Time<p0.horizon)) then (some (false,17,p0)) else ((Cn F p0 p1).bind fun a2 =>
  bif a2.2 then (some (false,0,p0)) else (bif (decide (p0.count≥256)) then (some (false,13,p0)) else ((Gk F p0 p1).bind fun a3 =>
  some (true,0,a3))))))
def Cl (F:Nat) (p0:mosaic_Node) (p1:Int):Option Int :=
  (B5 F p0).bind fun a0 =>
  bif a0 then (some 1) else (bif (!(Bs p1 0 4294967296)) then (some 3) else (bif (decide (p1<p0.horizon)) then (some 17) else (some 0)))
def C2 (p0:ByteArray):Bool :=
  !(sEq p0 p0)
def Bx (p0:ByteArray) (p1:ByteArray):Int :=
  bif (C2 p0) then (bif (C2 p1) then (0) else (-1)) else (bif (C2 p1) then (1) else (bif (Rh p0 p1) then (-1) else (bif (Qy p0 p1) then (1) else (0))))
def Ev (F:Nat) (p0:Int):Option beam_slant :=
  (ck (p0*p0)).bind fun x2 =>
  (ck (262144-x2)).bind fun x3 =>
  (ck (1024*p0)).bind fun x4 =>
  (ck (p0*p0)).bind fun x5 =>
  (ck (262144+x5)).bind fun x6 =>
  some (beam_slant.mk x3 x4 x6)
def Hl (F:Nat) (p0:Int) (c0_:api_Site) (c1_:beam_slant):Option Int :=
  (ck (p0*c0_.Step)).bind fun x1 =>
  (ck (x1*c1_.c)).bind fun x2 =>
  (Nq x2 c1_.d).bind fun x3 =>
  some x3
def Nb (a0:Int):Option Int :=
  some a0
def Le (F:Nat) (p0:api_Site) (p2:Int) (y2:beam_slant) (k2:(Int→Int→Option Int)) (a0:Int) (a2:Int):Option Int :=
  (ck (a2-a0)).bind fun a3 =>
  bif (decide (a3>1)) then ((ck (a0+a2)).bind fun a4 =>
  (Nq a4 2).bind fun a1 =>
  (Hl F a1 p0 y2).bind fun a6 =>
  (Hl F a1 p0 y2).bind fun a7 =>
  (ck (a6*a7)).bind fun a5 =>
  bif (decide (a5≤p2)) then (k2 a1 a2) else (k2 a0 a1)) else (Nb a0)
def Ht (F:Nat) (p0:api_Site) (p2:Int) (y2:beam_slant):Nat→Int→Int→Option Int
  | 0,_,_=>none
  | n+1,a0,a1=>Le F p0 p2 y2 (Ht F p0 p2 y2 n) a0 a1
def Mu (F:Nat) (p0:api_Site) (p1:Int) (p2:Int):Option Int :=
  (Ev F p1).bind fun y2 =>
  (Hl F p0.Gates p0 y2).bind fun y4 =>
  (ck (y4*y4)).bind fun x5 =>
  bif (decide (p2≥x5)) then (some (-1)) else (Ht F p0 p2 y2 F 0 p0.Gates)
def Hk (F:Nat) (p0:Int) (p1:Int):Option beam_vector :=
  (F2 p1 p0).bind fun x2 =>
  (ck (2*p0)).bind fun x3 =>
  (ck (x3*x2)).bind fun x4 =>
  (ck (p0*p0)).bind fun x5 =>
  (ck (x2*x2)).bind fun x6 =>
  (ck (x5-x6)).bind fun x7 =>
  (ck (p0*p0)).bind fun x8 =>
  (ck (x2*x2)).bind fun x9 =>
  (ck (x8+x9)).bind fun a0 =>
  (Nq p1 p0).bind fun a1 =>
  bif (a1==0) then (some (beam_vector.mk x4 x7 a0)) else (bif (a1==1) then (bif (a1==0) then (some (beam_vector.mk x4 x7 a0)) else (some (beam_vector.mk x7 (IntKind.i64.wrap (0-x4)) a0))) else (bif (a1==0) then (some (beam_vector.mk x4 x7 a0)) else (bif (a1==2) then (bif (a1==0) then (some (beam_vector.mk x4 x7 a0)) else (some (beam_vector.mk (IntKind.i64.wrap (0-x4)) (IntKind.i64.wrap (0-x7)) a0))) else (bif (a1==0) then (some (beam_vector.mk x4 x7 a0)) else (bif (a1==3) then (bif (a1==0) then (some (beam_vector.mk x4 x7 a0)) else (some (beam_vector.mk (IntKind.i64.wrap (0-x7)) x4 a0))) else (bif (a1==0) then (some (beam_vector.mk x4 x7 a0)) else (none)))))))
def Hf (F:Nat) (p0:beam_vector) (p1:Int) (p2:Int):Option Bool :=
  (ck (p0.y*p1)).bind fun x2 =>
  (ck (p0.x*p2)).bind fun x3 =>
  some (decide (x2≥x3))
def M9 (p0:Int) (a0:Int) (a1:Int):Option Int :=
  (ck (a0*p0)).bind fun a2 =>
  (ck (a2+a1)).bind fun a3 =>
  some a3
def M7 (F:Nat) (p0:Int) (a3:Int) (a4:Int) (a5:Int) (k3:(Int→Int→Option Int)) (a0:Int) (a1:Int):Option Int :=
  (ck (a1-a0)).bind fun a6 =>
  bif (decide (a6>1)) then ((ck (a0+a1)).bind fun a7 =>
  (Nq a7 2).bind fun a2 =>
  (Hk F p0 a2).bind fun a8 =>
  (Hf F a8 a3 a4).bind fun a9 =>
  bif a9 then (k3 a2 a1) else (k3 a0 a2)) else (M9 p0 a5 a0)
def Jh (F:Nat) (p0:Int) (a0:Int) (a1:Int) (a2:Int):Nat→Int→Int→Option Int
  | 0,_,_=>none
  | n+1,a3,a4=>M7 F p0 a0 a1 a2 (Jh F p0 a0 a1 a2 n) a3 a4
def M8 (F:Nat) (p0:Int) (a0:Int) (a1:Int) (a2:Int):Option Int :=
  Jh F p0 a0 a1 a2 F 0 p0
def Kt (F:Nat) (p0:Int) (k4:(Int→Int→Int→Option Int)) (a0:Int) (a1:Int) (a2:Int):Option Int :=
  bif (bif (decide (a0<0)) then true else (decide (a1≤0))) then ((ck (a2+1)).bind fun a3 =>
  k4 (IntKind.i64.wrap (0-a1)) a0 a3) else (M8 F p0 a0 a1 a2)
def Ff (F:Nat) (p0:Int):Nat→Int→Int→Int→Option Int
  | 0,_,_,_=>none
  | n+1,a0,a1,a2=>Kt F p0 (Ff F p0 n) a0 a1 a2
def Ns (F:Nat) (p0:Int) (p1:Int) (p2:Int):Option Int :=
  Ff F p0 F p1 p2 0
def Mt (F:Nat) (p0:api_Site) (p1:Int) (p2:Int) (p3:Int):Option (Int×Int×Bool) :=
  (ck (p2-p0.X)).bind fun x2 =>
  (ck (p3-p0.Y)).bind fun x3 =>
  bif (bif (x2==0) then (x3==0) else false) then (some (0,0,true)) else ((ck (x2*x2)).bind fun x4 =>
  (ck (x3*x3)).bind fun x5 =>
  (ck (x4+x5)).bind fun x6 =>
  (Mu F p0 p1 x6).bind fun y7 =>
  bif (decide (y7<0)) then (some (0,0,false)) else ((Ns F p0.Rose x2 x3).bind fun y8 =>
  some (y8,y7,true)))
def N9 (a0:(List Int)):Option ((List Int)×Int) :=
  some (a0,0)
def Ld (a1:Int) (k2:((List Int)→Int→Option ((List Int)×Int))) (a0:(List Int)):Option ((List Int)×Int) :=
  (ck (a1+1)).bind fun a2 =>
  k2 a0 a2
def Hs (a0:(List Int)) (a2:Int) (k4:((List Int)→Int→Option ((List Int)×Int))) (a3:Int):Option ((List Int)×Int) :=
  (apd 8 a0 ([a3])).bind fun a1 =>
  (ck (a2+1)).bind fun a4 =>
  k4 a1 a4
def Lc (F:Nat) (p0:api_Site) (p1:Int) (p2:api_Grid) (a3:Int) (k2:((List Int)→Int→Option ((List Int)×Int))) (k4:((List Int)→Int→Option ((List Int)×Int))) (a1:(List Int)) (a0:Int):Option ((List Int)×Int) :=
  bif (decide (a0<p2.Wide)) then ((ck (a0*p2.Size)).bind fun a4 =>
  (ck (p2.X+a4)).bind fun a5 =>
  (Nq p2.Size 2).bind fun a6 =>
  (ck (a5+a6)).bind fun a7 =>
  (ck (a3*p2.Size)).bind fun a8 =>
  (ck (p2.Y+a8)).bind fun a9 =>
  (Nq p2.Size 2).bind fun aA =>
  (ck (a9+aA)).bind fun aB =>
  (Mt F p0 p1 a7 aB).bind fun a2 =>
  bif a2.2.2 then ((ck (a2.1*p0.Gates)).bind fun aC =>
  (ck (aC+a2.2.1)).bind fun aD =>
  Hs a1 a0 k4 aD) else (Hs a1 a0 k4 (-1))) else (Ld a3 k2 a1)
def Gn (F:Nat) (p0:api_Site) (p1:Int) (p2:api_Grid) (a0:Int) (k2:((List Int)→Int→Option ((List Int)×Int))):Nat→(List Int)→Int→Option ((List Int)×Int)
  | 0,_,_=>none
  | n+1,a1,a2=>Lc F p0 p1 p2 a0 k2 (Gn F p0 p1 p2 a0 k2 n) a1 a2
def Lb (F:Nat) (p0:api_Site) (p1:Int) (p2:api_Grid) (k2:((List Int)→Int→Option ((List Int)×Int))) (a0:(List Int)) (a1:Int):Option ((List Int)×Int) :=
  bif (decide (a1<p2.High)) then (Gn F p0 p1 p2 a1 k2 F a0 0) else (N9 a0)
def Gm (F:Nat) (p0:api_Site) (p1:Int) (p2:api_Grid):Nat→(List Int)→Int→Option ((List Int)×Int)
  | 0,_,_=>none
  | n+1,a0,a1=>Lb F p0 p1 p2 (Gm F p0 p1 p2 n) a0 a1
def Ke (F:Nat) (p0:api_Site) (p1:Int) (p2:api_Grid):Option ((List Int)×Int) :=
  (beam_CheckSite F p0).bind fun y3 =>
  bif (y3 != 0) then (some (([]:(List Int)),y3)) else (bif ((Bw p2) != 0) then (some (([]:(List Int)),(Bw p2))) else (bif (!(Aa p1 0 256)) then (some (([]:(List Int)),3)) else ((ck (p2.Wide*p2.High)).bind fun x4 =>
  (mk0 8 x4).bind fun c6 =>
  Gm F p0 p1 p2 F ([]:List Int) 0)))
def Ft (p0:api_Span):Bool :=
  bif (bif (decide (1000000≤p0.Lo)) then (decide (p0.Lo≤p0.Hi)) else false) then (decide (p0.Hi≤100000000)) else false
def Kf (F:Nat) (p0:Int) (p1:Int):Option Int :=
  (Nq p0 p1).bind fun x1 =>
  (ck (x1*p1)).bind fun x2 =>
  bif (decide (x2>p0)) then ((ck (x1-1)).bind fun x3 =>
  some x3) else (some x1)
def Nc (F:Nat) (p0:Int) (p1:Int):Option Int :=
  (Nq p0 p1).bind fun x1 =>
  (ck (x1*p1)).bind fun x2 =>
  bif (decide (x2<p0)) then ((ck (x1+1)).bind fun x3 =>
  some x3) else (some x1)
def G8 (F:Nat) (p0:api_Site) (p1:Int) (p2:Int):Option Int :=
  (Ev F p1).bind fun y2 =>
  (ck (2*p2)).bind fun x4 =>
  (ck (x4+1)).bind fun x5 =>
  (ck (x5*p0.Step)).bind fun x6 =>
  (ck (x6*y2.c)).bind fun x7 =>
  (ck (2*y2.d)).bind fun x8 =>
  (Kf F x7 x8).bind fun y9 =>
  some y9
def H5 (F:Nat) (p0:api_Site) (p1:Int) (p2:Int) (p3:Int):Option Int :=
  (Ev F p1).bind fun y2 =>
  (G8 F p0 p1 p2).bind fun y5 =>
  (ck (2*p2)).bind fun x6 =>
  (ck (x6+1)).bind fun x7 =>
  (ck (x7*p0.Step)).bind fun x8 =>
  (ck (x8*y2.s)).bind fun x9 =>
  (ck (2*y2.d)).bind fun a0 =>
  (ck (y5*y5)).bind fun a1 =>
  (ck (2*p3)).bind fun a2 =>
  (Kf F x9 a0).bind fun a5 =>
  (ck (p0.Z+a5)).bind fun a3 =>
  (Kf F a1 a2).bind fun a6 =>
  (ck (a3+a6)).bind fun a4 =>
  some a4
def G9 (F:Nat) (p0:api_Site) (p1:Int) (p2:Int):Option Int :=
  (Ev F p1).bind fun y2 =>
  (ck (2*p2)).bind fun x4 =>
  (ck (x4+1)).bind fun x5 =>
  (ck (x5*p0.Step)).bind fun x6 =>
  (ck (x6*y2.c)).bind fun x7 =>
  (ck (2*y2.d)).bind fun x8 =>
  (Nc F x7 x8).bind fun y9 =>
  some y9
def H6 (F:Nat) (p0:api_Site) (p1:Int) (p2:Int) (p3:Int):Option Int :=
  (Ev F p1).bind fun y2 =>
  (G9 F p0 p1 p2).bind fun y5 =>
  (ck (2*p2)).bind fun x6 =>
  (ck (x6+1)).bind fun x7 =>
  (ck (x7*p0.Step)).bind fun x8 =>
  (ck (x8*y2.s)).bind fun x9 =>
  (ck (2*y2.d)).bind fun a0 =>
  (ck (y5*y5)).bind fun a1 =>
  (ck (2*p3)).bind fun a2 =>
  (Nc F x9 a0).bind fun a5 =>
  (ck (p0.Z+a5)).bind fun a3 =>
  (Nc F a1 a2).bind fun a6 =>
  (ck (a3+a6)).bind fun a4 =>
  some a4
def Mr (F:Nat) (p0:api_Site) (p1:Int) (p2:api_Span) (p3:Int):Option (api_Span×Int) :=
  (beam_CheckSite F p0).bind fun y4 =>
  bif (y4 != 0) then (some ((api_Span.mk 0 0),y4)) else ((gd (((bif (!(Aa p1 0 256)) then true else (!(Ft p2)))==false&&true)) (ck (p0.Gates-1)) 0).bind fun x5 =>
  bif (bif (bif (!(Aa p1 0 256)) then true else (!(Ft p2))) then true else (!(Aa p3 0 x5))) then (some ((api_Span.mk 0 0),3)) else ((ck (p1-p0.Width)).bind fun x6 =>
  (ck (p1+p0.Width)).bind fun x7 =>
  (H5 F p0 x6 p3 p2.Hi).bind fun y9 =>
  (H6 F p0 x7 p3 p2.Lo).bind fun a0 =>
  some ((api_Span.mk y9 a0),0)))
def Fq (p0:mosaic_Node) (p1:mosaic_Key) (a0:(List api_Span)):Option ((List api_Span)×(List (mosaic_where×(List api_Span)))) :=
  some (a0,(upM p0.looks (mosaic_where.mk p1.Name p1.Tilt) a0))
def Dh (a0:(List api_Span)) (a2:Int) (k2:((List api_Span)→Int→Option ((List api_Span)×(List (mosaic_where×(List api_Span)))))) (a3:Int) (a4:Int):Option ((List api_Span)×(List (mosaic_where×(List api_Span)))) :=
  (apd 16 a0 ([(api_Span.mk a3 a4)])).bind fun a1 =>
  (ck (a2+1)).bind fun a5 =>
  k2 a1 a5
def Fp (F:Nat) (p0:mosaic_Node) (p1:mosaic_Key) (a4:((List Int)×Int)) (k2:((List api_Span)→Int→Option ((List api_Span)×(List (mosaic_where×(List api_Span)))))) (a1:(List api_Span)) (a0:Int):Option ((List api_Span)×(List (mosaic_where×(List api_Span)))) :=
  bif (decide (a0<((a4.1.length:Nat):Int))) then ((Bo a4.1 a0).bind fun a2 =>
  bif (decide (a2≥0)) then ((F2 a2 ((((lkM p0.radars p1.Name).getD (mosaic_Radar.mk (api_Site.mk ByteArray.empty 0 0 0 0 0 0 0) (api_Span.mk 0 0))).Site).Gates)).bind fun a5 =>
  (Mr F (api_Site.mk ((((lkM p0.radars p1.Name).getD (mosaic_Radar.mk (api_Site.mk ByteArray.empty 0 0 0 0 0 0 0) (api_Span.mk 0 0))).Site).Name) ((((lkM p0.radars p1.Name).getD (mosaic_Radar.mk (api_Site.mk ByteArray.empty 0 0 0 0 0 0 0) (api_Span.mk 0 0))).Site).X) ((((lkM p0.radars p1.Name).getD (mosaic_Radar.mk (api_Site.mk ByteArray.empty 0 0 0 0 0 0 0) (api_Span.mk 0 0))).Site).Y) ((((lkM p0.radars p1.Name).getD (mosaic_Radar.mk (api_Site.mk ByteArray.empty 0 0 0 0 0 0 0) (api_Span.mk 0 0))).Site).Z) ((((lkM p0.radars p1.Name).getD (mosaic_Radar.mk (api_Site.mk ByteArray.empty 0 0 0 0 0 0 0) (api_Span.mk 0 0))).Site).Rose) ((((lkM p0.radars p1.Name).getD (mosaic_Radar.mk (api_Site.mk ByteArray.empty 0 0 0 0 0 0 0) (api_Span.mk 0 0))).Site).Gates) ((((lkM p0.radars p1.Name).getD (mosaic_Radar.mk (api_Site.mk ByteArray.empty 0 0 0 0 0 0 0) (api_Span.mk 0 0))).Site).Step) ((((lkM p0.radars p1.Name).getD (mosaic_Radar.mk (api_Site.mk ByteArray.empty 0 0 0 0 0 0 0) (api_Span.mk 0 0))).Site).Width)) p1.Tilt p0.spec.Earth a5).bind fun a3 =>
  Dh a1 a0 k2 a3.1.Lo a3.1.Hi) else (Dh a1 a0 k2 1 0)) else (Fq p0 p1 a1)
def Cm (F:Nat) (p0:mosaic_Node) (p1:mosaic_Key) (a0:((List Int)×Int)):Nat→(List api_Span)→Int→Option ((List api_Span)×(List (mosaic_where×(List api_Span))))
  | 0,_,_=>none
  | n+1,a1,a2=>Fp F p0 p1 a0 (Cm F p0 p1 a0 n) a1 a2
def Fo (F:Nat) (p0:mosaic_Node) (p1:mosaic_Key):Option ((List api_Span)×(List (mosaic_where×(List api_Span)))) :=
  bif ((lkM p0.looks (mosaic_where.mk p1.Name p1.Tilt)).isSome) then (some (((lkM p0.looks (mosaic_where.mk p1.Name p1.Tilt)).getD []),p0.looks)) else ((Ke F (api_Site.mk ((((lkM p0.radars p1.Name).getD (mosaic_Radar.mk (api_Site.mk ByteArray.empty 0 0 0 0 0 0 0) (api_Span.mk 0 0))).Site).Name) ((((lkM p0.radars p1.Name).getD (mosaic_Radar.mk (api_Site.mk ByteArray.empty 0 0 0 0 0 0 0) (api_Span.mk 0 0))).Site).X) ((((lkM p0.radars p1.Name).getD (mosaic_Radar.mk (api_Site.mk ByteArray.empty 0 0 0 0 0 0 0) (api_Span.mk 0 0))).Site).Y) ((((lkM p0.radars p1.Name).getD (mosaic_Radar.mk (api_Site.mk ByteArray.empty 0 0 0 0 0 0 0) (api_Span.mk 0 0))).Site).Z) ((((lkM p0.radars p1.Name).getD (mosaic_Radar.mk (api_Site.mk ByteArray.empty 0 0 0 0 0 0 0) (api_Span.mk 0 0))).Site).Rose) ((((lkM p0.radars p1.Name).getD (mosaic_Radar.mk (api_Site.mk ByteArray.empty 0 0 0 0 0 0 0) (api_Span.mk 0 0))).Site).Gates) ((((lkM p0.radars p1.Name).getD (mosaic_Radar.mk (api_Site.mk ByteArray.empty 0 0 0 0 0 0 0) (api_Span.mk 0 0))).Site).Step) ((((lkM p0.radars p1.Name).getD (mosaic_Radar.mk (api_Site.mk ByteArray.empty 0 0 0 0 0 0 0) (api_Span.mk 0 0))).Site).Width)) p1.Tilt p0.spec.Grid).bind fun a0 =>
  Cm F p0 p1 a0 F ([]) 0)
def Gx (a0:(List (mosaic_where×(List api_Span)))) (a1:(List mosaic_used)):Option ((List mosaic_used)×(List (mosaic_where×(List api_Span)))) :=
  some (a1,a0)
def E7 (a2:Int) (k3:((List (mosaic_where×(List api_Span)))→Int→(List mosaic_used)→Option ((List mosaic_used)×(List (mosaic_where×(List api_Span)))))) (a0:(List (mosaic_where×(List api_Span)))) (a1:(List mosaic_used)):Option ((List mosaic_used)×(List (mosaic_where×(List api_Span)))) :=
  (ck (a2+1)).bind fun a3 =>
  k3 a0 a3 a1
def Gv (F:Nat) (p0:mosaic_Node) (a4:(List (mosaic_where×mosaic_Key))) (a5:(List mosaic_Key)) (k3:((List (mosaic_where×(List api_Span)))→Int→(List mosaic_used)→Option ((List mosaic_used)×(List (mosaic_where×(List api_Span)))))) (a2:(List (mosaic_where×(List api_Span)))) (a1:Int) (a3:(List mosaic_used)):Option ((List mosaic_used)×(List (mosaic_where×(List api_Span)))) :=
  bif (decide (a1<((a5.length:Nat):Int))) then ((Bo a5 a1).bind fun a0 =>
  bif (((((lkM a4 (mosaic_where.mk a0.Name a0.Tilt)).getD (mosaic_Key.mk ByteArray.empty 0 0)).Name)==a0.Name)&&(((((lkM a4 (mosaic_where.mk a0.Name a0.Tilt)).getD (mosaic_Key.mk ByteArray.empty 0 0)).Tilt:Int)==a0.Tilt)&&(((((lkM a4 (mosaic_where.mk a0.Name a0.Tilt)).getD (mosaic_Key.mk ByteArray.empty 0 0)).Time:Int)==a0.Time)&&true))) then ((Bo ((lkM p0.kept a0).getD []) 0).bind fun a8 =>
  (Fo F (mosaic_Node.mk p0.spec p0.radars p0.horizon p0.kept p0.count a2) a0).bind fun a6 =>
  (apd 80 a3 ([(mosaic_used.mk a0 a8 a6.1)])).bind fun a7 =>
  E7 a1 k3 a6.2 a7) else (E7 a1 k3 a2 a3)) else (Gx a2 a3)
def Db (F:Nat) (p0:mosaic_Node) (a0:(List (mosaic_where×mosaic_Key))) (a1:(List mosaic_Key)):Nat→(List (mosaic_where×(List api_Span)))→Int→(List mosaic_used)→Option ((List mosaic_used)×(List (mosaic_where×(List api_Span))))
  | 0,_,_,_=>none
  | n+1,a2,a4,a3=>Gv F p0 a0 a1 (Db F p0 a0 a1 n) a2 a4 a3
def E6 (F:Nat) (p0:mosaic_Node) (a0:(List (mosaic_where×mosaic_Key))):Option ((List mosaic_used)×(List (mosaic_where×(List api_Span)))) :=
  (Dt F p0).bind fun a1 =>
  Db F p0 a0 a1 F p0.looks 0 ([])
def E8 (a1:Int) (k5:((List (mosaic_where×mosaic_Key))→Int→Option ((List mosaic_used)×(List (mosaic_where×(List api_Span)))))) (a0:(List (mosaic_where×mosaic_Key))):Option ((List mosaic_used)×(List (mosaic_where×(List api_Span)))) :=
  (ck (a1+1)).bind fun a2 =>
  k5 a0 a2
def Gw (F:Nat) (p0:mosaic_Node) (p1:Int) (a4:(List mosaic_Key)) (k5:((List (mosaic_where×mosaic_Key))→Int→Option ((List mosaic_used)×(List (mosaic_where×(List api_Span)))))) (a2:(List (mosaic_where×mosaic_Key))) (a1:Int):Option ((List mosaic_used)×(List (mosaic_where×(List api_Span)))) :=
  bif (decide (a1<((a4.length:Nat):Int))) then ((Bo a4 a1).bind fun a0 =>
  (gd (((((((lkM p0.kept a0).getD []).length:Nat):Int)==1)==true&&true)) (ck (a0.Time+((((lkM p0.radars a0.Name).getD (mosaic_Radar.mk (api_Site.mk ByteArray.empty 0 0 0 0 0 0 0) (api_Span.mk 0 0))).Offset).Hi))) 0).bind fun a3 =>
  (gd (((bif (((((lkM p0.kept a0).getD []).length:Nat):Int)==1) then (decide (a3≤p1)) else false)==true&&true)) (ck (p1-a0.Time)) 0).bind fun a5 =>
  (gd (((bif (((((lkM p0.kept a0).getD []).length:Nat):Int)==1) then (decide (a3≤p1)) else false)==true&&true)) (ck (a5-((((lkM p0.radars a0.Name).getD (mosaic_Radar.mk (api_Site.mk ByteArray.empty 0 0 0 0 0 0 0) (api_Span.mk 0 0))).Offset).Lo))) 0).bind fun a6 =>
  bif (bif (bif (((((lkM p0.kept a0).getD []).length:Nat):Int)==1) then (decide (a3≤p1)) else false) then (decide (a6≤p0.spec.Age)) else false) then (E8 a1 k5 (upM a2 (mosaic_where.mk a0.Name a0.Tilt) a0)) else (E8 a1 k5 a2)) else (E6 F p0 a2)
def Dc (F:Nat) (p0:mosaic_Node) (p1:Int) (a0:(List mosaic_Key)):Nat→(List (mosaic_where×mosaic_Key))→Int→Option ((List mosaic_used)×(List (mosaic_where×(List api_Span))))
  | 0,_,_=>none
  | n+1,a1,a2=>Gw F p0 p1 a0 (Dc F p0 p1 a0 n) a1 a2
def Fe (F:Nat) (p0:mosaic_Node) (p1:Int):Option ((List mosaic_used)×(List (mosaic_where×(List api_Span)))) :=
  (Dt F p0).bind fun a0 =>
  Dc F p0 p1 a0 F ([]:List (mosaic_where×mosaic_Key)) 0
def Av (p0:api_Span):Bool :=
  decide (p0.Lo≤p0.Hi)
def G1 (a1:((List mosaic_used)×(List (mosaic_where×(List api_Span))))) (a0:(List mosaic_Pixel)):Option ((List mosaic_Pixel)×Int×(List (mosaic_where×(List api_Span)))) :=
  some (a0,0,a1.2)
def G3 (a1:Int) (k2:(Int→(List mosaic_Pixel)→Option ((List mosaic_Pixel)×Int×(List (mosaic_where×(List api_Span)))))) (a0:(List mosaic_Pixel)):Option ((List mosaic_Pixel)×Int×(List (mosaic_where×(List api_Span)))) :=
  (ck (a1+1)).bind fun a2 =>
  k2 a2 a0
def Dq (a3:Int) (a0:(List mosaic_Pixel)) (k2:(Int→(List mosaic_Pixel)→Option ((List mosaic_Pixel)×Int×(List (mosaic_where×(List api_Span)))))) (a4:Int) (a5:Int) (a2:ByteArray) (a6:Int) (a7:Int):Option ((List mosaic_Pixel)×Int×(List (mosaic_where×(List api_Span)))) :=
  (apd 48 a0 ([(mosaic_Pixel.mk (api_Span.mk a4 a5) (mosaic_Key.mk a2 a6 a7))])).bind fun a1 =>
  G3 a3 k2 a1
def Cw (a5:((List mosaic_used)×(List (mosaic_where×(List api_Span))))) (a1:Int) (a2:(List mosaic_Pixel)) (k2:(Int→(List mosaic_Pixel)→Option ((List mosaic_Pixel)×Int×(List (mosaic_where×(List api_Span)))))) (a4:Int):Option ((List mosaic_Pixel)×Int×(List (mosaic_where×(List api_Span)))) :=
  bif (decide (a4<0)) then (Dq a1 a2 k2 0 1000000 ByteArray.empty 0 0) else ((Bo a5.1 a4).bind fun a0 =>
  (Bo a0.vals a1).bind fun a3 =>
  Dq a1 a2 k2 a3.Lo a3.Hi a0.Key.Name a0.Key.Tilt a0.Key.Time)
def Ce (a0:Int) (k6:(Int→Int→Option ((List mosaic_Pixel)×Int×(List (mosaic_where×(List api_Span)))))) (a1:Int):Option ((List mosaic_Pixel)×Int×(List (mosaic_where×(List api_Span)))) :=
  (ck (a0+1)).bind fun a2 =>
  k6 a1 a2
def G0 (F:Nat) (a5:((List mosaic_used)×(List (mosaic_where×(List api_Span))))) (a2:Int) (a6:(List mosaic_Pixel)) (k2:(Int→(List mosaic_Pixel)→Option ((List mosaic_Pixel)×Int×(List (mosaic_where×(List api_Span)))))) (k6:(Int→Int→Option ((List mosaic_Pixel)×Int×(List (mosaic_where×(List api_Span)))))) (a4:Int) (a0:Int):Option ((List mosaic_Pixel)×Int×(List (mosaic_where×(List api_Span)))) :=
  bif (decide (a0<((a5.1.length:Nat):Int))) then ((Bo a5.1 a0).bind fun a1 =>
  (Bo a1.bands a2).bind fun a7 =>
  bif (!(Av a7)) then (Ce a0 k6 a4) else (bif (decide (a4<0)) then (Ce a0 k6 a0) else ((Bo a5.1 a4).bind fun a3 =>
  (Bo a1.bands a2).bind fun a8 =>
  (Bo a3.bands a2).bind fun a9 =>
  (Bo a1.bands a2).bind fun aA =>
  (Bo a3.bands a2).bind fun aB =>
  (Ll F ([(Af a8.Hi a9.Hi),(Af aA.Lo aB.Lo),(Af a3.Key.Time a1.Key.Time),(Bx a1.Key.Name a3.Key.Name),(Af a1.Key.Tilt a3.Key.Tilt)])).bind fun aC =>
  bif (decide (aC<0)) then (Ce a0 k6 a0) else (Ce a0 k6 a4)))) else (Cw a5 a2 a6 k2 a4)
def Cf (F:Nat) (a2:((List mosaic_used)×(List (mosaic_where×(List api_Span))))) (a1:Int) (a0:(List mosaic_Pixel)) (k2:(Int→(List mosaic_Pixel)→Option ((List mosaic_Pixel)×Int×(List (mosaic_where×(List api_Span)))))):Nat→Int→Int→Option ((List mosaic_Pixel)×Int×(List (mosaic_where×(List api_Span))))
  | 0,_,_=>none
  | n+1,a3,a4=>G0 F a2 a1 a0 k2 (Cf F a2 a1 a0 k2 n) a3 a4
def Fz (F:Nat) (a2:((List mosaic_used)×(List (mosaic_where×(List api_Span))))) (a3:Int) (k2:(Int→(List mosaic_Pixel)→Option ((List mosaic_Pixel)×Int×(List (mosaic_where×(List api_Span)))))) (a1:Int) (a0:(List mosaic_Pixel)):Option ((List mosaic_Pixel)×Int×(List (mosaic_where×(List api_Span)))) :=
  bif (decide (a1<a3)) then (Cf F a2 a1 a0 k2 F (-1) 0) else (G1 a2 a0)
def Bt (F:Nat) (a1:((List mosaic_used)×(List (mosaic_where×(List api_Span))))) (a0:Int):Nat→Int→(List mosaic_Pixel)→Option ((List mosaic_Pixel)×Int×(List (mosaic_where×(List api_Span))))
  | 0,_,_=>none
  | n+1,a3,a2=>Fz F a1 a0 (Bt F a1 a0 n) a3 a2
def Bl (F:Nat) (p0:mosaic_Node) (p1:Int):Option ((List mosaic_Pixel)×Int×(List (mosaic_where×(List api_Span)))) :=
  (Cl F p0 p1).bind fun a0 =>
  bif (a0 != 0) then (some (([]:(List mosaic_Pixel)),a0,p0.looks)) else ((Fe F p0 p1).bind fun a2 =>
  (ck (p0.spec.Grid.Wide*p0.spec.Grid.High)).bind fun a1 =>
  Bt F a2 a1 F 0 ([]))
def Ad (p0:Int):api_Span :=
  (api_Span.mk p0 p0)
def law11_S:mosaic_Spec :=
  (mosaic_Spec.mk (api_Grid.mk (-2000) (-1000) 1000 4 2) (Ad 8000000) ([(mosaic_Radar.mk (api_Site.mk (⟨#[97]⟩:ByteArray) (-1500) (-500) 100 1 3 1000 0) (api_Span.mk 0 0)),(mosaic_Radar.mk (api_Site.mk (⟨#[98]⟩:ByteArray) 1500 (-500) 100 1 3 1000 0) (api_Span.mk 5 10))]) 600)
def Kk (p0:ByteArray) (p1:Int) (a0:(List api_Span)):Option mosaic_Message :=
  some (mosaic_Message.mk (mosaic_Key.mk p0 0 p1) a0)
def Kj (p0:ByteArray) (p1:Int) (p2:Int) (k2:((List api_Span)→Int→Option mosaic_Message)) (a0:(List api_Span)) (a1:Int):Option mosaic_Message :=
  bif (decide (a1<8)) then ((apd 16 a0 ([(Ad p2)])).bind fun a2 =>
  (ck (a1+1)).bind fun a3 =>
  k2 a2 a3) else (Kk p0 p1 a0)
def Hu (p0:ByteArray) (p1:Int) (p2:Int):Nat→(List api_Span)→Int→Option mosaic_Message
  | 0,_,_=>none
  | n+1,a0,a1=>Kj p0 p1 p2 (Hu p0 p1 p2 n) a0 a1
def Kq (F:Nat) (p0:ByteArray) (p1:Int) (p2:Int):Option mosaic_Message :=
  Hu p0 p1 p2 F ([]) 0
def law11_works (F:Nat):Option Bool :=
  (Hq F (mosaic_Spec.mk (api_Grid.mk law11_S.Grid.X law11_S.Grid.Y law11_S.Grid.Size law11_S.Grid.Wide law11_S.Grid.High) (api_Span.mk law11_S.Earth.Lo law11_S.Earth.Hi) law11_S.Radars law11_S.Age)).bind fun y7 =>
  exc y7 (fun a7=>bif (a7 != 0) then (some false) else (none)) (fun a2=>bif (a2.2 != 0) then (some false) else ((Kq F (⟨#[97]⟩:ByteArray) 100 5).bind fun a8 =>
  (Ax F (mosaic_Node.mk (mosaic_Spec.mk (api_Grid.mk a2.1.spec.Grid.X a2.1.spec.Grid.Y a2.1.spec.Grid.Size a2.1.spec.Grid.Wide a2.1.spec.Grid.High) (api_Span.mk a2.1.spec.Earth.Lo a2.1.spec.Earth.Hi) a2.1.spec.Radars a2.1.spec.Age) a2.1.radars a2.1.horizon a2.1.kept a2.1.count a2.1.looks) a8).bind fun a0 =>
  (Kq F (⟨#[98]⟩:ByteArray) 100 7).bind fun a9 =>
  (Ax F (mosaic_Node.mk (mosaic_Spec.mk (api_Grid.mk a0.2.2.spec.Grid.X a0.2.2.spec.Grid.Y a0.2.2.spec.Grid.Size a0.2.2.spec.Grid.Wide a0.2.2.spec.Grid.High) (api_Span.mk a0.2.2.spec.Earth.Lo a0.2.2.spec.Earth.Hi) a0.2.2.spec.Radars a0.2.2.spec.Age) a0.2.2.radars a0.2.2.horizon a0.2.2.kept a0.2.2.count a0.2.2.looks) a9).bind fun a1 =>
  (Bl F (mosaic_Node.mk (mosaic_Spec.mk (api_Grid.mk a1.2.2.spec.Grid.X a1.2.2.spec.Grid.Y a1.2.2.spec.Grid.Size a1.2.2.spec.Grid.Wide a1.2.2.spec.Grid.High) (api_Span.mk a1.2.2.spec.Earth.Lo a1.2.2.spec.Earth.Hi) a1.2.2.spec.Radars a1.2.2.spec.Age) a1.2.2.radars a1.2.2.horizon a1.2.2.kept a1.2.2.count a1.2.2.looks) 110).bind fun a3 =>
  (gd (((bif (bif (bif (bif (bif a0.1 then a1.1 else false) then (a0.2.1==0) else false) then (a1.2.1==0) else false) then (a3.2.1==0) else false) then (((a3.1.length:Nat):Int)==8) else false)==true&&true)) (Bo a3.1 0) default).bind fun a4 =>
  (gd (((bif (bif (bif (bif (bif (bif a0.1 then a1.1 else false) then (a0.2.1==0) else false) then (a1.2.1==0) else false) then (a3.2.1==0) else false) then (((a3.1.length:Nat):Int)==8) else false) then (((a4.Value_.Lo:Int)==(Ad 5).Lo)&&(((a4.Value_.Hi:Int)==(Ad 5).Hi)&&true)) else false)==true&&true)) (Bo a3.1 2) default).bind fun a5 =>
  (gd (((bif (bif (bif (bif (bif (bif (bif a0.1 then a1.1 else false) then (a0.2.1==0) else false) then (a1.2.1==0) else false) then (a3.2.1==0) else false) then (((a3.1.length:Nat):Int)==8) else false) then (((a4.Value_.Lo:Int)==(Ad 5).Lo)&&(((a4.Value_.Hi:Int)==(Ad 5).Hi)&&true)) else false) then ((a5.Key.Name==(⟨#[97]⟩:ByteArray))&&(((a5.Key.Tilt:Int)==0)&&(((a5.Key.Time:Int)==100)&&true))) else false)==true&&true)) (Bo a3.1 3) default).bind fun a6 =>
  some (bif (bif (bif (bif (bif (bif (bif (bif a0.1 then a1.1 else false) then (a0.2.1==0) else false) then (a1.2.1==0) else false) then (a3.2.1==0) else false) then (((a3.1.length:Nat):Int)==8) else false) then (((a4.Value_.Lo:Int)==(Ad 5).Lo)&&(((a4.Value_.Hi:Int)==(Ad 5).Hi)&&true)) else false) then ((a5.Key.Name==(⟨#[97]⟩:ByteArray))&&(((a5.Key.Tilt:Int)==0)&&(((a5.Key.Time:Int)==100)&&true))) else false) then ((((a6.Value_.Lo:Int)==(Ad 7).Lo)&&(((a6.Value_.Hi:Int)==(Ad 7).Hi)&&true))&&(((a6.Key.Name==(⟨#[98]⟩:ByteArray))&&(((a6.Key.Tilt:Int)==0)&&(((a6.Key.Time:Int)==100)&&true)))&&true)) else false)))
def Jv (x6:Int) (x9:Int) (a1:Int) (a0:(List mosaic_Radar)):Option mosaic_Spec :=
  some (mosaic_Spec.mk (api_Grid.mk (-2000) (-2000) 1000 x6 x9) (api_Span.mk 8000000 9000000) a0 a1)
def Fh (p0:law11_Net) (x6:Int) (x9:Int) (aB:Int) (k2:((List mosaic_Radar)→Int→Option mosaic_Spec)) (a1:(List mosaic_Radar)) (a0:Int):Option mosaic_Spec :=
  (ck p0.Count).bind fun aC =>
  (F2 aC 3).bind fun aD =>
  bif (decide (a0≤aD)) then (bif (a0==0) then ((ck p0.Stations.1.Lo).bind fun aE =>
  (F2 aE 601).bind fun aF =>
  (ck (aF-300)).bind fun a2 =>
  (Bo ([(⟨#[97]⟩:ByteArray),(⟨#[98]⟩:ByteArray),(⟨#[99]⟩:ByteArray)]) a0).bind fun a8 =>
  (ck p0.Stations.1.X).bind fun aG =>
  (F2 aG 4000).bind fun aH =>
  (ck p0.Stations.1.Y).bind fun aI =>
  (F2 aI 4000).bind fun aJ =>
  (ck p0.Stations.1.Z).bind fun aK =>
  (F2 aK 1000).bind fun aL =>
  (ck p0.Stations.1.Rose).bind fun aM =>
  (F2 aM 3).bind fun aN =>
  (ck (1+aN)).bind fun aO =>
  (ck p0.Stations.1.Gates).bind fun aP =>
  (F2 aP 5).bind fun aQ =>
  (ck (1+aQ)).bind fun aR =>
  (ck p0.Stations.1.Width).bind fun aS =>
  (F2 aS 3).bind fun aT =>
  (ck p0.Stations.1.Hi).bind fun aU =>
  (F2 aU 300).bind fun aV =>
  (ck (a2+aV)).bind fun aW =>
  (apd 88 a1 ([(mosaic_Radar.mk (api_Site.mk a8 aH aJ aL aO aR 1000 aT) (api_Span.mk a2 aW))])).bind fun a5 =>
  (ck (a0+1)).bind fun aX =>
  k2 a5 aX) else (bif (a0==1) then ((ck p0.Stations.2.1.Lo).bind fun aY =>
  (F2 aY 601).bind fun aZ =>
  (ck (aZ-300)).bind fun a3 =>
  (Bo ([(⟨#[97]⟩:ByteArray),(⟨#[98]⟩:ByteArray),(⟨#[99]⟩:ByteArray)]) a0).bind fun a9 =>
  (ck p0.Stations.2.1.X).bind fun b0 =>
  (F2 b0 4000).bind fun b1 =>
  (ck p0.Stations.2.1.Y).bind fun b2 =>
  (F2 b2 4000).bind fun b3 =>
  (ck p0.Stations.2.1.Z).bind fun b4 =>
  (F2 b4 1000).bind fun b5 =>
  (ck p0.Stations.2.1.Rose).bind fun b6 =>
  (F2 b6 3).bind fun b7 =>
  (ck (1+b7)).bind fun b8 =>
  (ck p0.Stations.2.1.Gates).bind fun b9 =>
  (F2 b9 5).bind fun bA =>
  (ck (1+bA)).bind fun bB =>
  (ck p0.Stations.2.1.Width).bind fun bC =>
  (F2 bC 3).bind fun bD =>
  (ck p0.Stations.2.1.Hi).bind fun bE =>
  (F2 bE 300).bind fun bF =>
  (ck (a3+bF)).bind fun bG =>
  (apd 88 a1 ([(mosaic_Radar.mk (api_Site.mk a9 b1 b3 b5 b8 bB 1000 bD) (api_Span.mk a3 bG))])).bind fun a6 =>
  (ck (a0+1)).bind fun bH =>
  k2 a6 bH) else (bif (a0==2) then ((ck p0.Stations.2.2.Lo).bind fun bI =>
  (F2 bI 601).bind fun bJ =>
  (ck (bJ-300)).bind fun a4 =>
  (Bo ([(⟨#[97]⟩:ByteArray),(⟨#[98]⟩:ByteArray),(⟨#[99]⟩:ByteArray)]) a0).bind fun aA =>
  (ck p0.Stations.2.2.X).bind fun bK =>
  (F2 bK 4000).bind fun bL =>
  (ck p0.Stations.2.2.Y).bind fun bM =>
  (F2 bM 4000).bind fun bN =>
  (ck p0.Stations.2.2.Z).bind fun bO =>
  (F2 bO 1000).bind fun bP =>
  (ck p0.Stations.2.2.Rose).bind fun bQ =>
  (F2 bQ 3).bind fun bR =>
  (ck (1+bR)).bind fun bS =>
  (ck p0.Stations.2.2.Gates).bind fun bT =>
  (F2 bT 5).bind fun bU =>
  (ck (1+bU)).bind fun bV =>
  (ck p0.Stations.2.2.Width).bind fun bW =>
  (F2 bW 3).bind fun bX =>
  (ck p0.Stations.2.2.Hi).bind fun bY =>
  (F2 bY 300).bind fun bZ =>
  (ck (a4+bZ)).bind fun c0 =>
  (apd 88 a1 ([(mosaic_Radar.mk (api_Site.mk aA bL bN bP bS bV 1000 bX) (api_Span.mk a4 c0))])).bind fun a7 =>
  (ck (a0+1)).bind fun c1 =>
  k2 a7 c1) else (none)))) else (Jv x6 x9 aB a1)
def C7 (p0:law11_Net) (x6:Int) (x9:Int) (a0:Int):Nat→(List mosaic_Radar)→Int→Option mosaic_Spec
  | 0,_,_=>none
  | n+1,a1,a2=>Fh p0 x6 x9 a0 (C7 p0 x6 x9 a0 n) a1 a2
def Gd (F:Nat) (p0:law11_Net):Option mosaic_Spec :=
  (ck p0.Wide).bind fun x4 =>
  (F2 x4 4).bind fun x5 =>
  (ck (1+x5)).bind fun x6 =>
  (ck p0.High).bind fun x7 =>
  (F2 x7 4).bind fun x8 =>
  (ck (1+x8)).bind fun x9 =>
  (ck p0.Age).bind fun a0 =>
  (F2 a0 2000).bind fun a1 =>
  (ck (1+a1)).bind fun a2 =>
  C7 p0 x6 x9 a2 F ([]) 0
def Gu (a1:mosaic_Radar) (a2:Int) (a3:Int) (a0:(List api_Span)):Option mosaic_Message :=
  some (mosaic_Message.mk (mosaic_Key.mk a1.Site.Name a2 a3) a0)
def E0 (p0:law11_Post) (a1:(List api_Span)) (a3:Int) (k2:((List api_Span)→Int→Option mosaic_Message)) (a0:Int):Option mosaic_Message :=
  (ck p0.Wide).bind fun a4 =>
  (ck (a0+a4)).bind fun a5 =>
  (apd 16 a1 ([(api_Span.mk a0 a5)])).bind fun a2 =>
  (ck (a3+1)).bind fun a6 =>
  k2 a2 a6
def Gt (p0:law11_Post) (p1:mosaic_Spec) (a2:mosaic_Radar) (a5:Int) (a8:Int) (k2:((List api_Span)→Int→Option mosaic_Message)) (a1:(List api_Span)) (a0:Int):Option mosaic_Message :=
  (ck (p1.Grid.Wide*p1.Grid.High)).bind fun a4 =>
  bif (decide (a0<a4)) then (bif (decide (((p0.Vals.length:Nat):Int)>0)) then ((F2 a0 ((p0.Vals.length:Nat):Int)).bind fun a6 =>
  (Bo p0.Vals a6).bind fun a3 =>
  (ck a3).bind fun a7 =>
  E0 p0 a1 a0 k2 a7) else (E0 p0 a1 a0 k2 0)) else (Gu a2 a5 a8 a1)
def Da (p0:law11_Post) (p1:mosaic_Spec) (a0:mosaic_Radar) (a1:Int) (a2:Int):Nat→(List api_Span)→Int→Option mosaic_Message
  | 0,_,_=>none
  | n+1,a3,a4=>Gt p0 p1 a0 a1 a2 (Da p0 p1 a0 a1 a2 n) a3 a4
def H8 (F:Nat) (p0:law11_Post) (p1:mosaic_Spec):Option mosaic_Message :=
  (ck p0.Radar).bind fun a1 =>
  (F2 a1 ((p1.Radars.length:Nat):Int)).bind fun a2 =>
  (Bo p1.Radars a2).bind fun a0 =>
  (ck p0.Tilt).bind fun a3 =>
  (F2 a3 4).bind fun a4 =>
  (ck p0.Time).bind fun a5 =>
  (F2 a5 2000).bind fun a6 =>
  Da p0 p1 a0 a4 a6 F ([]) 0
def G6 (a0:(List mosaic_Message)):Option (List mosaic_Message) :=
  some a0
def G7 (a1:Int) (k2:(Int→(List mosaic_Message)→Option (List mosaic_Message))) (a0:(List mosaic_Message)):Option (List mosaic_Message) :=
  (ck (a1+1)).bind fun a2 =>
  k2 a2 a0
def G5 (F:Nat) (p0:mosaic_Node) (a5:Int) (k2:(Int→(List mosaic_Message)→Option (List mosaic_Message))) (a0:mosaic_Key) (k4:(Int→(List mosaic_Message)→Option (List mosaic_Message))) (a1:Int) (a2:(List mosaic_Message)):Option (List mosaic_Message) :=
  bif (decide (a1<((((lkM p0.kept a0).getD []).length:Nat):Int))) then ((Bo ((lkM p0.kept a0).getD []) a1).bind fun a4 =>
  (Bc F a4).bind fun a7 =>
  (apd 56 a2 ([(mosaic_Message.mk a0 a7)])).bind fun a3 =>
  (ck (a1+1)).bind fun a6 =>
  k4 a6 a3) else (G7 a5 k2 a2)
def Dr (F:Nat) (p0:mosaic_Node) (a1:Int) (k2:(Int→(List mosaic_Message)→Option (List mosaic_Message))) (a0:mosaic_Key):Nat→Int→(List mosaic_Message)→Option (List mosaic_Message)
  | 0,_,_=>none
  | n+1,a3,a2=>G5 F p0 a1 k2 a0 (Dr F p0 a1 k2 a0 n) a3 a2
def G4 (F:Nat) (p0:mosaic_Node) (a2:(List mosaic_Key)) (k2:(Int→(List mosaic_Message)→Option (List mosaic_Message))) (a0:Int) (a1:(List mosaic_Message)):Option (List mosaic_Message) :=
  bif (decide (a0<((a2.length:Nat):Int))) then ((Bo a2 a0).bind fun a3 =>
  Dr F p0 a0 k2 a3 F 0 a1) else (G6 a1)
def Cx (F:Nat) (p0:mosaic_Node) (a0:(List mosaic_Key)):Nat→Int→(List mosaic_Message)→Option (List mosaic_Message)
  | 0,_,_=>none
  | n+1,a2,a1=>G4 F p0 a0 (Cx F p0 a0 n) a2 a1
def E5 (F:Nat) (p0:mosaic_Node):Option (List mosaic_Message) :=
  (Dt F p0).bind fun a0 =>
  Cx F p0 a0 F 0 ([])
def Dg (F:Nat) (p0:mosaic_Node):Option Int :=
  (B5 F p0).bind fun a0 =>
  bif a0 then (some 0) else (some p0.horizon)
def Bj (p0:api_Span) (p1:api_Span):Bool :=
  bif (decide (p0.Lo>p1.Hi)) then true else (decide (p1.Lo>p0.Hi))
def Em (a1:((List mosaic_used)×(List (mosaic_where×(List api_Span))))) (a0:(List mosaic_Clash)):Option ((List mosaic_Clash)×Int×(List (mosaic_where×(List api_Span)))) :=
  some (a0,0,a1.2)
def Eo (a1:Int) (k2:(Int→(List mosaic_Clash)→Option ((List mosaic_Clash)×Int×(List (mosaic_where×(List api_Span)))))) (a0:(List mosaic_Clash)):Option ((List mosaic_Clash)×Int×(List (mosaic_where×(List api_Span)))) :=
  (ck (a1+1)).bind fun a2 =>
  k2 a2 a0
def Ci (a1:Int) (k4:(Int→(List mosaic_Clash)→Option ((List mosaic_Clash)×Int×(List (mosaic_where×(List api_Span)))))) (a0:(List mosaic_Clash)):Option ((List mosaic_Clash)×Int×(List (mosaic_where×(List api_Span)))) :=
  (ck (a1+1)).bind fun a2 =>
  k4 a2 a0
def C5 (a1:Int) (k6:(Int→(List mosaic_Clash)→Option ((List mosaic_Clash)×Int×(List (mosaic_where×(List api_Span)))))) (a0:(List mosaic_Clash)):Option ((List mosaic_Clash)×Int×(List (mosaic_where×(List api_Span)))) :=
  (ck (a1+1)).bind fun a2 =>
  k6 a2 a0
def El (a2:Int) (aC:Int) (k4:(Int→(List mosaic_Clash)→Option ((List mosaic_Clash)×Int×(List (mosaic_where×(List api_Span)))))) (a1:mosaic_used) (a8:(List mosaic_used)) (k6:(Int→(List mosaic_Clash)→Option ((List mosaic_Clash)×Int×(List (mosaic_where×(List api_Span)))))) (a4:Int) (a5:(List mosaic_Clash)):Option ((List mosaic_Clash)×Int×(List (mosaic_where×(List api_Span)))) :=
  bif (decide (a4<((a8.length:Nat):Int))) then ((Bo a8 a4).bind fun a0 =>
  (gd (((sEq a1.Key.Name a0.Key.Name)==false&&true)) (Bo a0.bands a2) default).bind fun a3 =>
  (gd (((bif (sEq a1.Key.Name a0.Key.Name) then true else (!(Av a3)))==false&&true)) (Bo a1.bands a2) default).bind fun a6 =>
  (gd (((bif (sEq a1.Key.Name a0.Key.Name) then true else (!(Av a3)))==false&&true)) (Bo a0.bands a2) default).bind fun a7 =>
  (gd (((bif (bif (sEq a1.Key.Name a0.Key.Name) then true else (!(Av a3))) then true else (Bj a6 a7))==false&&true)) (Bo a1.vals a2) default).bind fun aA =>
  (gd (((bif (bif (sEq a1.Key.Name a0.Key.Name) then true else (!(Av a3))) then true else (Bj a6 a7))==false&&true)) (Bo a0.vals a2) default).bind fun aB =>
  bif (bif (bif (bif (sEq a1.Key.Name a0.Key.Name) then true else (!(Av a3))) then true else (Bj a6 a7)) then true else (!(Bj aA aB))) then (C5 a4 k6 a5) else ((apd 72 a5 ([(mosaic_Clash.mk a2 a1.Key a0.Key)])).bind fun a9 =>
  C5 a4 k6 a9)) else (Ci aC k4 a5)
def Br (a2:Int) (a3:Int) (k4:(Int→(List mosaic_Clash)→Option ((List mosaic_Clash)×Int×(List (mosaic_where×(List api_Span)))))) (a1:mosaic_used) (a0:(List mosaic_used)):Nat→Int→(List mosaic_Clash)→Option ((List mosaic_Clash)×Int×(List (mosaic_where×(List api_Span))))
  | 0,_,_=>none
  | n+1,a5,a4=>El a2 a3 k4 a1 a0 (Br a2 a3 k4 a1 a0 n) a5 a4
def Ek (F:Nat) (a1:((List mosaic_used)×(List (mosaic_where×(List api_Span))))) (a3:Int) (k2:(Int→(List mosaic_Clash)→Option ((List mosaic_Clash)×Int×(List (mosaic_where×(List api_Span)))))) (k4:(Int→(List mosaic_Clash)→Option ((List mosaic_Clash)×Int×(List (mosaic_where×(List api_Span)))))) (a0:Int) (a2:(List mosaic_Clash)):Option ((List mosaic_Clash)×Int×(List (mosaic_where×(List api_Span)))) :=
  bif (decide (a0<((a1.1.length:Nat):Int))) then ((Bo a1.1 a0).bind fun a4 =>
  (Bo a4.bands a3).bind fun a6 =>
  bif (!(Av a6)) then (Ci a0 k4 a2) else ((ck (a0+1)).bind fun a7 =>
  (Lm a1.1 a7 ((a1.1.length:Nat):Int)).bind fun a5 =>
  Br a3 a0 k4 a4 a5 F 0 a2)) else (Eo a3 k2 a2)
def Bi (F:Nat) (a1:((List mosaic_used)×(List (mosaic_where×(List api_Span))))) (a0:Int) (k2:(Int→(List mosaic_Clash)→Option ((List mosaic_Clash)×Int×(List (mosaic_where×(List api_Span)))))):Nat→Int→(List mosaic_Clash)→Option ((List mosaic_Clash)×Int×(List (mosaic_where×(List api_Span))))
  | 0,_,_=>none
  | n+1,a3,a2=>Ek F a1 a0 k2 (Bi F a1 a0 k2 n) a3 a2
def Ej (F:Nat) (a2:((List mosaic_used)×(List (mosaic_where×(List api_Span))))) (a3:Int) (k2:(Int→(List mosaic_Clash)→Option ((List mosaic_Clash)×Int×(List (mosaic_where×(List api_Span)))))) (a1:Int) (a0:(List mosaic_Clash)):Option ((List mosaic_Clash)×Int×(List (mosaic_where×(List api_Span)))) :=
  bif (decide (a1<a3)) then (Bi F a2 a1 k2 F 0 a0) else (Em a2 a0)
def Bq (F:Nat) (a1:((List mosaic_used)×(List (mosaic_where×(List api_Span))))) (a0:Int):Nat→Int→(List mosaic_Clash)→Option ((List mosaic_Clash)×Int×(List (mosaic_where×(List api_Span))))
  | 0,_,_=>none
  | n+1,a3,a2=>Ej F a1 a0 (Bq F a1 a0 n) a3 a2
def Bb (F:Nat) (p0:mosaic_Node) (p1:Int):Option ((List mosaic_Clash)×Int×(List (mosaic_where×(List api_Span)))) :=
  (Cl F p0 p1).bind fun a0 =>
  bif (a0 != 0) then (some (([]:(List mosaic_Clash)),a0,p0.looks)) else ((Fe F p0 p1).bind fun a2 =>
  (ck (p0.spec.Grid.Wide*p0.spec.Grid.High)).bind fun a1 =>
  Bq F a2 a1 F 0 ([]))
def E3 (a0:(List Int)) (a2:Int):Option (List Int) :=
  (apd 1 a0 ([IntKind.u8.wrap a2])).bind fun a1 =>
  some a1
def E2 (k2:((List Int)→Int→Option (List Int))) (a1:(List Int)) (a0:Int):Option (List Int) :=
  bif (decide (a0≥128)) then ((F2 a0 128).bind fun a3 =>
  (ck (a3+128)).bind fun a4 =>
  (apd 1 a1 ([IntKind.u8.wrap a4])).bind fun a2 =>
  (Nq a0 128).bind fun a5 =>
  k2 a2 a5) else (E3 a1 a0)
def Cb:Nat→(List Int)→Int→Option (List Int)
  | 0,_,_=>none
  | n+1,a0,a1=>E2 (Cb n) a0 a1
def D4 (F:Nat) (p0:(List Int)) (p1:Int):Option (List Int) :=
  Cb F p0 p1
def L6 (a0:Int):Option (List Int) :=
  some ([IntKind.u8.wrap (Int.fdiv a0 16777216),IntKind.u8.wrap (Int.fdiv a0 65536),IntKind.u8.wrap (Int.fdiv a0 256),IntKind.u8.wrap a0])
def H9 (p0:(List Int)) (k2:(Int→Int→Option (List Int))) (a1:Int) (a0:Int):Option (List Int) :=
  bif (decide (a0<((p0.length:Nat):Int))) then ((Bo p0 a0).bind fun a2 =>
  (ck (a0+1)).bind fun a3 =>
  k2 (IntKind.u32.wrap ((IntKind.u32.wrap ((IntKind.u32.wrap (31*a1))+(IntKind.u32.wrap a2)))+1)) a3) else (L6 a1)
def Du (p0:(List Int)):Nat→Int→Int→Option (List Int)
  | 0,_,_=>none
  | n+1,a0,a1=>H9 p0 (Du p0 n) a0 a1
def K3 (F:Nat) (p0:(List Int)):Option (List Int) :=
  Du p0 F 1 0
def By (F:Nat) (a0:(List Int)):Option (List Int) :=
  (K3 F a0).bind fun a2 =>
  (apd 1 a0 a2).bind fun a1 =>
  some a1
def D7 (a1:Int) (k2:(Int→(List Int)→Option (List Int))) (a0:(List Int)):Option (List Int) :=
  (ck (a1+1)).bind fun a2 =>
  k2 a2 a0
def D6 (F:Nat) (a4:Int) (k2:(Int→(List Int)→Option (List Int))) (a3:mosaic_Message) (k4:((List Int)→Int→Option (List Int))) (a2:(List Int)) (a1:Int):Option (List Int) :=
  bif (decide (a1<((a3.Vals.length:Nat):Int))) then ((Bo a3.Vals a1).bind fun a0 =>
  (ck (a0.Hi-a0.Lo)).bind fun a5 =>
  (D4 F a2 a0.Lo).bind fun a7 =>
  (D4 F a7 a5).bind fun a8 =>
  (ck (a1+1)).bind fun a6 =>
  k4 a8 a6) else (D7 a4 k2 a2)
def Bk (F:Nat) (a1:Int) (k2:(Int→(List Int)→Option (List Int))) (a0:mosaic_Message):Nat→(List Int)→Int→Option (List Int)
  | 0,_,_=>none
  | n+1,a2,a3=>D6 F a1 k2 a0 (Bk F a1 k2 a0 n) a2 a3
def D5 (F:Nat) (a3:(List mosaic_Message)) (k2:(Int→(List Int)→Option (List Int))) (a1:Int) (a2:(List Int)):Option (List Int) :=
  bif (decide (a1<((a3.length:Nat):Int))) then ((Bo a3 a1).bind fun a0 =>
  (D4 F a2 ((a0.Key.Name.size:Nat):Int)).bind fun a5 =>
  (apd 1 a5 (sby a0.Key.Name)).bind fun a4 =>
  (D4 F a4 a0.Key.Tilt).bind fun a6 =>
  (D4 F a6 a0.Key.Time).bind fun a7 =>
  Bk F a1 k2 a0 F a7 0) else (By F a2)
def Bg (F:Nat) (a0:(List mosaic_Message)):Nat→Int→(List Int)→Option (List Int)
  | 0,_,_=>none
  | n+1,a2,a1=>D5 F a0 (Bg F a0 n) a2 a1
def As (F:Nat) (p0:mosaic_Node):Option (List Int) :=
  (B5 F p0).bind fun a0 =>
  bif a0 then (some ([]:(List Int))) else ((D4 F ([82,68,77,49]) p0.horizon).bind fun a1 =>
  (D4 F a1 p0.count).bind fun a2 =>
  (E5 F p0).bind fun a3 =>
  Bg F a3 F 0 a2)
def Cq (p0:mosaic_reader) (p1:Int):Option (Except (Value×mosaic_reader) ((List Int)×mosaic_reader)) :=
  (Lm p0.left (0:Int) p1).bind fun l4 =>
  (Lm p0.left p1 ((p0.left.length:Nat):Int)).bind fun l6 =>
  some (.ok (l4,(mosaic_reader.mk l6)))
def Ao (F:Nat) (p0:mosaic_reader) (p1:Int):Option (Except (Value×mosaic_reader) ((List Int)×mosaic_reader)) :=
  bif (decide (p1>((p0.left.length:Nat):Int))) then (some (.error (.iface 204 (.agg #[]),p0))) else (Cq p0 p1)
def Fu (a0:(List Int)):Option (Except (Value×mosaic_reader) (Int×mosaic_reader)) :=
  some (.error (.iface 204 (.agg #[]),(mosaic_reader.mk a0)))
def D8 (F:Nat) (k2:((List Int)→Int→Int→Option (Except (Value×mosaic_reader) (Int×mosaic_reader)))) (a3:(List Int)) (a4:Int) (a0:Int):Option (Except (Value×mosaic_reader) (Int×mosaic_reader)) :=
  bif (decide (a0<35)) then ((Ao F (mosaic_reader.mk a3) 1).bind fun aA =>
  exc aA (fun a2=>some (.error (a2.1,(mosaic_reader.mk a2.2.left)))) fun a1 =>
  (Bo a1.1 0).bind fun a7 =>
  (ck a7).bind fun a5 =>
  (F2 a5 128).bind fun a8 =>
  (A1b .i64 a8 a0).bind fun a6 =>
  bif (decide (a5<128)) then (some (.ok ((orK .i64 a4 a6),(mosaic_reader.mk a1.2.left)))) else ((ck (a0+7)).bind fun a9 =>
  k2 a1.2.left (orK .i64 a4 a6) a9)) else (Fu a3)
def Ay (F:Nat):Nat→(List Int)→Int→Int→Option (Except (Value×mosaic_reader) (Int×mosaic_reader))
  | 0,_,_,_=>none
  | n+1,a0,a1,a2=>D8 F (Ay F n) a0 a1 a2
def A8 (F:Nat) (p0:mosaic_reader):Option (Except (Value×mosaic_reader) (Int×mosaic_reader)) :=
  Ay F F p0.left 0 0
def F9:Option Bool :=
  some true
def Dw (p0:(List Int)) (p1:(List Int)) (k2:(Int→Option Bool)) (a0:Int):Option Bool :=
  bif (decide (a0<((p0.length:Nat):Int))) then ((Bo p0 a0).bind fun a1 =>
  (Bo p1 a0).bind fun a2 =>
  bif (a1 != a2) then (some false) else ((ck (a0+1)).bind fun a3 =>
  k2 a3)) else (F9)
def Ca (p0:(List Int)) (p1:(List Int)):Nat→Int→Option Bool
  | 0,_=>none
  | n+1,a0=>Dw p0 p1 (Ca p0 p1 n) a0
def Cr (F:Nat) (p0:(List Int)) (p1:(List Int)):Option Bool :=
  bif (((p0.length:Nat):Int) != ((p1.length:Nat):Int)) then (some false) else (Ca p0 p1 F 0)
def K1 (F:Nat) (p1:(List Int)) (a4:Int) (a5:Int) (a6:Int) (a7:Int) (a8:Int) (a9:Int) (aA:Int) (aB:Int) (aC:Int) (a0:(List mosaic_Radar)) (aD:Int) (aG:(List Int)) (a1:(List (ByteArray×mosaic_Radar))) (a2:(List (mosaic_Key×(List (List api_Span))))) (a3:(List (mosaic_where×(List api_Span)))):Option (Except Int (mosaic_Node×Int)) :=
  (As F (mosaic_Node.mk (mosaic_Spec.mk (api_Grid.mk a4 a5 a8 a9 aA) (api_Span.mk aB aC) a0 aD) a1 a6 a2 a7 a3)).bind fun aE =>
  (Cr F aE p1).bind fun aF =>
  bif (!aF) then (some (.error 7)) else (some (.ok ((mosaic_Node.mk (mosaic_Spec.mk (api_Grid.mk a4 a5 a8 a9 aA) (api_Span.mk aB aC) a0 aD) a1 a6 a2 a7 a3),0)))
def Hh (a5:Int) (k4:(Int→Int→Int→Int→Int→Int→Int→Int→Int→(List mosaic_Radar)→Int→(List Int)→(List (ByteArray×mosaic_Radar))→(List (mosaic_Key×(List (List api_Span))))→(List (mosaic_where×(List api_Span)))→Int→Option (Except Int (mosaic_Node×Int)))) (a6:Int) (a7:Int) (a8:Int) (a9:Int) (aA:Int) (aB:Int) (aC:Int) (aD:Int) (aE:Int) (a0:(List mosaic_Radar)) (aF:Int) (a1:(List Int)) (a2:(List (ByteArray×mosaic_Radar))) (a3:(List (mosaic_Key×(List (List api_Span))))) (a4:(List (mosaic_where×(List api_Span)))):Option (Except Int (mosaic_Node×Int)) :=
  (ck (a5+1)).bind fun aG =>
  k4 a6 a7 a8 a9 aA aB aC aD aE a0 aF a1 a2 a3 a4 aG
def Ei (F:Nat) (a7:Int) (a8:Int) (a9:Int) (aA:Int) (aB:Int) (aC:Int) (aD:Int) (aE:Int) (aF:Int) (a1:(List mosaic_Radar)) (aG:Int) (a2:(List (ByteArray×mosaic_Radar))) (a3:(List (mosaic_Key×(List (List api_Span))))) (a4:(List (mosaic_where×(List api_Span)))) (aH:Int) (k4:(Int→Int→Int→Int→Int→Int→Int→Int→Int→(List mosaic_Radar)→Int→(List Int)→(List (ByteArray×mosaic_Radar))→(List (mosaic_Key×(List (List api_Span))))→(List (mosaic_where×(List api_Span)))→Int→Option (Except Int (mosaic_Node×Int)))) (aI:((List Int)×mosaic_reader)) (aJ:(Int×mosaic_reader)) (aK:(Int×mosaic_reader)) (a5:(List Int)) (a6:(List api_Span)):Option (Except Int (mosaic_Node×Int)) :=
  (Ax F (mosaic_Node.mk (mosaic_Spec.mk (api_Grid.mk a7 a8 aB aC aD) (api_Span.mk aE aF) a1 aG) a2 a9 a3 aA a4) (mosaic_Message.mk (mosaic_Key.mk (bst aI.1) aJ.1 aK.1) a6)).bind fun a0 =>
  bif (bif (!a0.1) then true else (a0.2.1 != 0)) then (some (.error 7)) else (Hh aH k4 a0.2.2.spec.Grid.X a0.2.2.spec.Grid.Y a0.2.2.horizon a0.2.2.count a0.2.2.spec.Grid.Size a0.2.2.spec.Grid.Wide a0.2.2.spec.Grid.High a0.2.2.spec.Earth.Lo a0.2.2.spec.Earth.Hi a0.2.2.spec.Radars a0.2.2.spec.Age a5 a0.2.2.radars a0.2.2.kept a0.2.2.looks)
def Fj (F:Nat) (aC:Int) (aD:Int) (aE:Int) (aF:Int) (aG:Int) (aH:Int) (aI:Int) (aJ:Int) (aK:Int) (a7:(List mosaic_Radar)) (aL:Int) (a8:(List (ByteArray×mosaic_Radar))) (a9:(List (mosaic_Key×(List (List api_Span))))) (aA:(List (mosaic_where×(List api_Span)))) (aM:Int) (k4:(Int→Int→Int→Int→Int→Int→Int→Int→Int→(List mosaic_Radar)→Int→(List Int)→(List (ByteArray×mosaic_Radar))→(List (mosaic_Key×(List (List api_Span))))→(List (mosaic_where×(List api_Span)))→Int→Option (Except Int (mosaic_Node×Int)))) (aQ:((List Int)×mosaic_reader)) (aR:(Int×mosaic_reader)) (aS:(Int×mosaic_reader)) (aN:Int) (k7:((List Int)→(List api_Span)→Int→Option (Except Int (mosaic_Node×Int)))) (a1:(List Int)) (a2:(List api_Span)) (a3:Int):Option (Except Int (mosaic_Node×Int)) :=
  bif (decide (a3<aN)) then ((A8 F (mosaic_reader.mk a1)).bind fun aT =>
  exc aT (fun a5=>bif isI 204 a5.1 then (some (.error 7)) else none) fun a0 =>
  (A8 F (mosaic_reader.mk a0.2.left)).bind fun aU =>
  exc aU (fun a6=>bif isI 204 a6.1 then (some (.error 7)) else none) fun a4 =>
  (ck (a0.1+a4.1)).bind fun aO =>
  (apd 16 a2 ([(api_Span.mk a0.1 aO)])).bind fun aB =>
  (ck (a3+1)).bind fun aP =>
  k7 a4.2.left aB aP) else (Ei F aC aD aE aF aG aH aI aJ aK a7 aL a8 a9 aA aM k4 aQ aR aS a1 a2)
def Do (F:Nat) (a4:Int) (a5:Int) (a6:Int) (a7:Int) (a8:Int) (a9:Int) (aA:Int) (aB:Int) (aC:Int) (a0:(List mosaic_Radar)) (aD:Int) (a1:(List (ByteArray×mosaic_Radar))) (a2:(List (mosaic_Key×(List (List api_Span))))) (a3:(List (mosaic_where×(List api_Span)))) (aE:Int) (k4:(Int→Int→Int→Int→Int→Int→Int→Int→Int→(List mosaic_Radar)→Int→(List Int)→(List (ByteArray×mosaic_Radar))→(List (mosaic_Key×(List (List api_Span))))→(List (mosaic_where×(List api_Span)))→Int→Option (Except Int (mosaic_Node×Int)))) (aG:((List Int)×mosaic_reader)) (aH:(Int×mosaic_reader)) (aI:(Int×mosaic_reader)) (aF:Int):Nat→(List Int)→(List api_Span)→Int→Option (Except Int (mosaic_Node×Int))
  | 0,_,_,_=>none
  | n+1,aJ,aK,aL=>Fj F a4 a5 a6 a7 a8 a9 aA aB aC a0 aD a1 a2 a3 aE k4 aG aH aI aF (Do F a4 a5 a6 a7 a8 a9 aA aB aC a0 aD a1 a2 a3 aE k4 aG aH aI aF n) aJ aK aL
def Fi (F:Nat) (p0:mosaic_Spec) (p1:(List Int)) (aT:(Int×mosaic_reader)) (k4:(Int→Int→Int→Int→Int→Int→Int→Int→Int→(List mosaic_Radar)→Int→(List Int)→(List (ByteArray×mosaic_Radar))→(List (mosaic_Key×(List (List api_Span))))→(List (mosaic_where×(List api_Span)))→Int→Option (Except Int (mosaic_Node×Int)))) (a5:Int) (a6:Int) (a7:Int) (a8:Int) (a9:Int) (aA:Int) (aB:Int) (aC:Int) (aD:Int) (a0:(List mosaic_Radar)) (aE:Int) (a1:(List Int)) (a2:(List (ByteArray×mosaic_Radar))) (a3:(List (mosaic_Key×(List (List api_Span))))) (a4:(List (mosaic_where×(List api_Span)))) (aF:Int):Option (Except Int (mosaic_Node×Int)) :=
  bif (decide (aF<aT.1)) then ((A8 F (mosaic_reader.mk a1)).bind fun aP =>
  exc aP (fun aK=>bif isI 204 aK.1 then (some (.error 7)) else none) fun aG =>
  (Ao F (mosaic_reader.mk aG.2.left) aG.1).bind fun aQ =>
  exc aQ (fun aL=>bif isI 204 aL.1 then (some (.error 7)) else none) fun aH =>
  (A8 F (mosaic_reader.mk aH.2.left)).bind fun aR =>
  exc aR (fun aM=>bif isI 204 aM.1 then (some (.error 7)) else none) fun aI =>
  (A8 F (mosaic_reader.mk aI.2.left)).bind fun aS =>
  exc aS (fun aN=>bif isI 204 aN.1 then (some (.error 7)) else none) fun aJ =>
  (ck (p0.Grid.Wide*p0.Grid.High)).bind fun aO =>
  Do F a5 a6 a7 a8 a9 aA aB aC aD a0 aE a2 a3 a4 aF k4 aH aI aJ aO F aJ.2.left ([]) 0) else (K1 F p1 a5 a6 a7 a8 a9 aA aB aC aD a0 aE a1 a2 a3 a4)
def Ch (F:Nat) (p0:mosaic_Spec) (p1:(List Int)) (a0:(Int×mosaic_reader)):Nat→Int→Int→Int→Int→Int→Int→Int→Int→Int→(List mosaic_Radar)→Int→(List Int)→(List (ByteArray×mosaic_Radar))→(List (mosaic_Key×(List (List api_Span))))→(List (mosaic_where×(List api_Span)))→Int→Option (Except Int (mosaic_Node×Int))
  | 0,_,_,_,_,_,_,_,_,_,_,_,_,_,_,_,_=>none
  | n+1,a6,a7,a8,a9,aA,aB,aC,aD,aE,a1,aF,a2,a3,a4,a5,aG=>Fi F p0 p1 a0 (Ch F p0 p1 a0 n) a6 a7 a8 a9 aA aB aC aD aE a1 aF a2 a3 a4 a5 aG
def Hg (F:Nat) (p0:mosaic_Spec) (p1:(List Int)) (a0:(mosaic_Node×Int)) (a2:(Int×mosaic_reader)) (a1:(Int×mosaic_reader)):Option (Except Int (mosaic_Node×Int)) :=
  Ch F p0 p1 a1 F a0.1.spec.Grid.X a0.1.spec.Grid.Y a2.1 a0.1.count a0.1.spec.Grid.Size a0.1.spec.Grid.Wide a0.1.spec.Grid.High a0.1.spec.Earth.Lo a0.1.spec.Earth.Hi a0.1.spec.Radars a0.1.spec.Age a1.2.left a0.1.radars a0.1.kept a0.1.looks 0
def Fk (F:Nat) (p0:mosaic_Spec) (p1:(List Int)) (a5:(mosaic_Node×Int)) (a4:(List Int)):Option (Except Int (mosaic_Node×Int)) :=
  (A8 F (mosaic_reader.mk a4)).bind fun a6 =>
  exc a6 (fun a2=>bif isI 204 a2.1 then (some (.error 7)) else none) fun a0 =>
  (A8 F (mosaic_reader.mk a0.2.left)).bind fun a7 =>
  exc a7 (fun a3=>bif isI 204 a3.1 then (some (.error 7)) else none) fun a1 =>
  bif (bif (decide (a0.1>4294967296)) then true else (decide (a1.1>256))) then (some (.error 7)) else (Hg F p0 p1 a5 a0 a1)
def K2 (a0:(List Int)):Option (Except Int (mosaic_Node×Int)) :=
  none
def Ck (F:Nat) (p0:mosaic_Spec) (p1:(List Int)):Option (Except Int (mosaic_Node×Int)) :=
  (Hq F p0).bind fun a6 =>
  exc a6 (fun a1=>bif (a1 != 0) then (some (.error a1)) else ((Ao F (mosaic_reader.mk p1) 4).bind fun a8 =>
  exc a8 (fun a5=>bif isI 204 a5.1 then (some (.error 7)) else none) fun a3 =>
  bif (!(sEq (bst a3.1) (⟨#[82,68,77,49]⟩:ByteArray))) then (some (.error 7)) else (K2 a3.2.left))) (fun a0=>bif (a0.2 != 0) then (some (.error a0.2)) else ((Ao F (mosaic_reader.mk p1) 4).bind fun a7 =>
  exc a7 (fun a4=>bif isI 204 a4.1 then (some (.error 7)) else none) fun a2 =>
  bif (!(sEq (bst a2.1) (⟨#[82,68,77,49]⟩:ByteArray))) then (some (.error 7)) else (Fk F p0 p1 a0 a2.2.left)))
def Lq (a0:(List (mosaic_where×(List api_Span)))) (a1:(List (mosaic_where×(List api_Span)))):Option (Bool×(List (mosaic_where×(List api_Span)))×(List (mosaic_where×(List api_Span)))) :=
  some (true,a1,a0)
def Hm (a3:Int) (k2:((List (mosaic_where×(List api_Span)))→(List (mosaic_where×(List api_Span)))→Int→Option (Bool×(List (mosaic_where×(List api_Span)))×(List (mosaic_where×(List api_Span)))))) (a0:(List (mosaic_where×(List api_Span)))) (a1:(List (mosaic_where×(List api_Span)))):Option (Bool×(List (mosaic_where×(List api_Span)))×(List (mosaic_where×(List api_Span)))) :=
  (ck (a3+1)).bind fun a2 =>
  k2 a0 a1 a2
def Jx (a6:Int) (k2:((List (mosaic_where×(List api_Span)))→(List (mosaic_where×(List api_Span)))→Int→Option (Bool×(List (mosaic_where×(List api_Span)))×(List (mosaic_where×(List api_Span)))))) (a3:((List mosaic_Clash)×Int×(List (mosaic_where×(List api_Span))))) (a4:((List mosaic_Clash)×Int×(List (mosaic_where×(List api_Span))))) (k5:(Int→Option (Bool×(List (mosaic_where×(List api_Span)))×(List (mosaic_where×(List api_Span)))))) (a2:Int):Option (Bool×(List (mosaic_where×(List api_Span)))×(List (mosaic_where×(List api_Span)))) :=
  bif (decide (a2<((a3.1.length:Nat):Int))) then ((Bo a3.1 a2).bind fun a0 =>
  (Bo a4.1 a2).bind fun a1 =>
  bif (!(((a0.Pixel:Int)==a1.Pixel)&&(((a0.A.Name==a1.A.Name)&&(((a0.A.Tilt:Int)==a1.A.Tilt)&&(((a0.A.Time:Int)==a1.A.Time)&&true)))&&(((a0.B.Name==a1.B.Name)&&(((a0.B.Tilt:Int)==a1.B.Tilt)&&(((a0.B.Time:Int)==a1.B.Time)&&true)))&&true)))) then (some (false,a3.2.2,a4.2.2)) else ((ck (a2+1)).bind fun a5 =>
  k5 a5)) else (Hm a6 k2 a4.2.2 a3.2.2)
def Gf (a0:Int) (k2:((List (mosaic_where×(List api_Span)))→(List (mosaic_where×(List api_Span)))→Int→Option (Bool×(List (mosaic_where×(List api_Span)))×(List (mosaic_where×(List api_Span)))))) (a1:((List mosaic_Clash)×Int×(List (mosaic_where×(List api_Span))))) (a2:((List mosaic_Clash)×Int×(List (mosaic_where×(List api_Span))))):Nat→Int→Option (Bool×(List (mosaic_where×(List api_Span)))×(List (mosaic_where×(List api_Span))))
  | 0,_=>none
  | n+1,a3=>Jx a0 k2 a1 a2 (Gf a0 k2 a1 a2 n) a3
def Ho (F:Nat) (p0:mosaic_Node) (p1:mosaic_Node) (p2:(List Int)) (a2:Int) (k2:((List (mosaic_where×(List api_Span)))→(List (mosaic_where×(List api_Span)))→Int→Option (Bool×(List (mosaic_where×(List api_Span)))×(List (mosaic_where×(List api_Span)))))) (a7:((List mosaic_Pixel)×Int×(List (mosaic_where×(List api_Span))))) (a8:((List mosaic_Pixel)×Int×(List (mosaic_where×(List api_Span))))):Option (Bool×(List (mosaic_where×(List api_Span)))×(List (mosaic_where×(List api_Span)))) :=
  (Bo p2 a2).bind fun a3 =>
  (ck a3).bind fun a5 =>
  (Bb F (mosaic_Node.mk p0.spec p0.radars p0.horizon p0.kept p0.count a7.2.2) a5).bind fun a0 =>
  (Bo p2 a2).bind fun a4 =>
  (ck a4).bind fun a6 =>
  (Bb F (mosaic_Node.mk p1.spec p1.radars p1.horizon p1.kept p1.count a8.2.2) a6).bind fun a1 =>
  bif (bif (a0.2.1 != a1.2.1) then true else (((a0.1.length:Nat):Int) != ((a1.1.length:Nat):Int))) then (some (false,a0.2.2,a1.2.2)) else (Gf a2 k2 a0 a1 F 0)
def Jy (F:Nat) (p0:mosaic_Node) (p1:mosaic_Node) (p2:(List Int)) (a6:Int) (k2:((List (mosaic_where×(List api_Span)))→(List (mosaic_where×(List api_Span)))→Int→Option (Bool×(List (mosaic_where×(List api_Span)))×(List (mosaic_where×(List api_Span)))))) (a3:((List mosaic_Pixel)×Int×(List (mosaic_where×(List api_Span))))) (a4:((List mosaic_Pixel)×Int×(List (mosaic_where×(List api_Span))))) (k6:(Int→Option (Bool×(List (mosaic_where×(List api_Span)))×(List (mosaic_where×(List api_Span)))))) (a2:Int):Option (Bool×(List (mosaic_where×(List api_Span)))×(List (mosaic_where×(List api_Span)))) :=
  bif (decide (a2<((a3.1.length:Nat):Int))) then ((Bo a3.1 a2).bind fun a0 =>
  (Bo a4.1 a2).bind fun a1 =>
  bif (!((((a0.Value_.Lo:Int)==a1.Value_.Lo)&&(((a0.Value_.Hi:Int)==a1.Value_.Hi)&&true))&&(((a0.Key.Name==a1.Key.Name)&&(((a0.Key.Tilt:Int)==a1.Key.Tilt)&&(((a0.Key.Time:Int)==a1.Key.Time)&&true)))&&true))) then (some (false,a3.2.2,a4.2.2)) else ((ck (a2+1)).bind fun a5 =>
  k6 a5)) else (Ho F p0 p1 p2 a6 k2 a3 a4)
def Gg (F:Nat) (p0:mosaic_Node) (p1:mosaic_Node) (p2:(List Int)) (a0:Int) (k2:((List (mosaic_where×(List api_Span)))→(List (mosaic_where×(List api_Span)))→Int→Option (Bool×(List (mosaic_where×(List api_Span)))×(List (mosaic_where×(List api_Span)))))) (a1:((List mosaic_Pixel)×Int×(List (mosaic_where×(List api_Span))))) (a2:((List mosaic_Pixel)×Int×(List (mosaic_where×(List api_Span))))):Nat→Int→Option (Bool×(List (mosaic_where×(List api_Span)))×(List (mosaic_where×(List api_Span))))
  | 0,_=>none
  | n+1,a3=>Jy F p0 p1 p2 a0 k2 a1 a2 (Gg F p0 p1 p2 a0 k2 a1 a2 n) a3
def Jw (F:Nat) (p0:mosaic_Node) (p1:mosaic_Node) (p2:(List Int)) (k2:((List (mosaic_where×(List api_Span)))→(List (mosaic_where×(List api_Span)))→Int→Option (Bool×(List (mosaic_where×(List api_Span)))×(List (mosaic_where×(List api_Span)))))) (a3:(List (mosaic_where×(List api_Span)))) (a4:(List (mosaic_where×(List api_Span)))) (a0:Int):Option (Bool×(List (mosaic_where×(List api_Span)))×(List (mosaic_where×(List api_Span)))) :=
  bif (decide (a0<((p2.length:Nat):Int))) then ((Bo p2 a0).bind fun a5 =>
  (ck a5).bind fun a7 =>
  (Bl F (mosaic_Node.mk p0.spec p0.radars p0.horizon p0.kept p0.count a4) a7).bind fun a1 =>
  (Bo p2 a0).bind fun a6 =>
  (ck a6).bind fun a8 =>
  (Bl F (mosaic_Node.mk p1.spec p1.radars p1.horizon p1.kept p1.count a3) a8).bind fun a2 =>
  bif (bif (a1.2.1 != a2.2.1) then true else (((a1.1.length:Nat):Int) != ((a2.1.length:Nat):Int))) then (some (false,a1.2.2,a2.2.2)) else (Gg F p0 p1 p2 a0 k2 a1 a2 F 0)) else (Lq a3 a4)
def Ge (F:Nat) (p0:mosaic_Node) (p1:mosaic_Node) (p2:(List Int)):Nat→(List (mosaic_where×(List api_Span)))→(List (mosaic_where×(List api_Span)))→Int→Option (Bool×(List (mosaic_where×(List api_Span)))×(List (mosaic_where×(List api_Span))))
  | 0,_,_,_=>none
  | n+1,a0,a1,a2=>Jw F p0 p1 p2 (Ge F p0 p1 p2 n) a0 a1 a2
def Jk (F:Nat) (p0:mosaic_Node) (p1:mosaic_Node) (p2:(List Int)):Option (Bool×(List (mosaic_where×(List api_Span)))×(List (mosaic_where×(List api_Span)))) :=
  (As F p0).bind fun a0 =>
  (As F p1).bind fun a1 =>
  bif (!(sEq (bst a0) (bst a1))) then (some (false,p0.looks,p1.looks)) else ((Dg F p0).bind fun a2 =>
  (Dg F p1).bind fun a3 =>
  bif (a2 != a3) then (some (false,p0.looks,p1.looks)) else ((Dt F p0).bind fun a4 =>
  (Dt F p1).bind fun a5 =>
  bif (((a4.length:Nat):Int) != ((a5.length:Nat):Int)) then (some (false,p0.looks,p1.looks)) else ((F1 F p0).bind fun a6 =>
  (F1 F p1).bind fun a7 =>
  bif (((a6.length:Nat):Int) != ((a7.length:Nat):Int)) then (some (false,p0.looks,p1.looks)) else (Ge F p0 p1 p2 F p1.looks p0.looks 0))))
def Gr (l:List mosaic_Key):List (mosaic_Key×Bool):=l.foldl (fun B k=>upM B k true) []
def Th (p0:mosaic_Node) (G:List (mosaic_Key×Bool)) (x:mosaic_Message):Bool:=!((lkM G x.Key).getD false&&((((lkM p0.kept x.Key).getD []).length:Int)==1))
def Gh (F:Nat) (p0:mosaic_Node) (p1:List mosaic_Key):Option (List mosaic_Message×Int) :=
  if 256<p1.length then some ([],9) else (E5 F p0).bind fun l=>if l.length≤1000000 then some (l.filter (Th p0 (Gr p1)),0) else none
def Dp (F:Nat) (p3:(List Int)) (p4:Int) (p5:Int) (aJ:mosaic_Spec) (aL:(List mosaic_Key)) (aR:Int) (aS:Int) (aT:Int) (aU:Int) (aV:Int) (aW:Int) (aX:Int) (aY:Int) (aZ:Int) (aM:(List mosaic_Radar)) (b0:Int) (aN:(List (ByteArray×mosaic_Radar))) (aO:(List (mosaic_Key×(List (List api_Span))))) (aP:(List (mosaic_where×(List api_Span)))) (a5:Int) (a6:Int) (a7:Int) (a8:Int) (a9:Int) (aA:Int) (aB:Int) (aC:Int) (aD:Int) (a2:(List mosaic_Radar)) (aE:Int) (a3:(List (ByteArray×mosaic_Radar))) (a4:(List (mosaic_Key×(List (List api_Span))))) (aI:(List (mosaic_where×(List api_Span)))):Option Bool :=
  (Dt F (mosaic_Node.mk (mosaic_Spec.mk (api_Grid.mk a5 a6 a9 aA aB) (api_Span.mk aC aD) a2 aE) a3 a7 a4 a8 aI)).bind fun b6 =>
  bif (((b6.length:Nat):Int) != ((aL.length:Nat):Int)) then (some false) else ((Jk F (mosaic_Node.mk (mosaic_Spec.mk (api_Grid.mk a5 a6 a9 aA aB) (api_Span.mk aC aD) a2 aE) a3 a7 a4 a8 aI) (mosaic_Node.mk (mosaic_Spec.mk (api_Grid.mk aR aS aV aW aX) (api_Span.mk aY aZ) aM b0) aN aT aO aU aP) p3).bind fun aH =>
  bif (!aH.1) then (some false) else ((As F (mosaic_Node.mk (mosaic_Spec.mk (api_Grid.mk a5 a6 a9 aA aB) (api_Span.mk aC aD) a2 aE) a3 a7 a4 a8 aH.2.1)).bind fun a1 =>
  (Ck F aJ a1).bind fun b7 =>
  exc b7 (fun bC=>none) (fun a0=>bif (a0.2 != 0) then (some false) else ((Jk F (mosaic_Node.mk (mosaic_Spec.mk (api_Grid.mk a5 a6 a9 aA aB) (api_Span.mk aC aD) a2 aE) a3 a7 a4 a8 aH.2.1) (mosaic_Node.mk (mosaic_Spec.mk (api_Grid.mk a0.1.spec.Grid.X a0.1.spec.Grid.Y a0.1.spec.Grid.Size a0.1.spec.Grid.Wide a0.1.spec.Grid.High) (api_Span.mk a0.1.spec.Earth.Lo a0.1.spec.Earth.Hi) a0.1.spec.Radars a0.1.spec.Age) a0.1.radars a0.1.horizon a0.1.kept a0.1.count a0.1.looks) p3).bind fun b8 =>
  bif (!b8.1) then (some false) else (bif (bif (decide (p5>0)) then (decide (((a1.length:Nat):Int)>0)) else false) then ((ck p4).bind fun b1 =>
  (F2 b1 ((a1.length:Nat):Int)).bind fun aG =>
  (Bo a1 aG).bind fun aQ =>
  (ck aQ).bind fun b2 =>
  (ck p5).bind fun b3 =>
  (ck (b2+b3)).bind fun b4 =>
  (F2 b4 256).bind fun b5 =>
  (Bo a1 aG).bind fun bD =>
  (Sz a1 aG (IntKind.u8.wrap b5)).bind fun aF =>
  (Ck F aJ aF).bind fun b9 =>
  exc b9 (fun aK=>bif (aK != 7) then (some false) else ((gd (((decide (((aF.length:Nat):Int)≥10))==true&&true)) (law11_works F) default).bind fun bA =>
  some (bif (decide (((aF.length:Nat):Int)≥10)) then bA else false))) (fun bE=>some false)) else ((gd (((decide (((a1.length:Nat):Int)≥10))==true&&true)) (law11_works F) default).bind fun bB =>
  some (bif (decide (((a1.length:Nat):Int)≥10)) then bB else false)))))))
def Fw (F:Nat) (p3:(List Int)) (p4:Int) (p5:Int) (aY:mosaic_Spec) (aH:(List mosaic_Key)) (aG:((List mosaic_Message)×Int)) (aN:Int) (aO:Int) (aP:Int) (aQ:Int) (aR:Int) (aS:Int) (aT:Int) (aU:Int) (aV:Int) (aI:(List mosaic_Radar)) (aW:Int) (aJ:(List (ByteArray×mosaic_Radar))) (aK:(List (mosaic_Key×(List (List api_Span))))) (aL:(List (mosaic_where×(List api_Span)))) (k4:(Int→Int→Int→Int→Int→Int→Int→Int→Int→(List mosaic_Radar)→Int→(List (ByteArray×mosaic_Radar))→(List (mosaic_Key×(List (List api_Span))))→(List (mosaic_where×(List api_Span)))→Int→Option Bool)) (a6:Int) (a7:Int) (a8:Int) (a9:Int) (aA:Int) (aB:Int) (aC:Int) (aD:Int) (aE:Int) (a2:(List mosaic_Radar)) (aF:Int) (a3:(List (ByteArray×mosaic_Radar))) (a4:(List (mosaic_Key×(List (List api_Span))))) (a5:(List (mosaic_where×(List api_Span)))) (a1:Int):Option Bool :=
  bif (decide (a1<((aG.1.length:Nat):Int))) then ((Bo aG.1 a1).bind fun aM =>
  (Ax F (mosaic_Node.mk (mosaic_Spec.mk (api_Grid.mk a6 a7 aA aB aC) (api_Span.mk aD aE) a2 aF) a3 a8 a4 a9 a5) aM).bind fun a0 =>
  bif (bif (!a0.1) then true else (a0.2.1 != 0)) then (some false) else ((ck (a1+1)).bind fun aX =>
  k4 a0.2.2.spec.Grid.X a0.2.2.spec.Grid.Y a0.2.2.horizon a0.2.2.count a0.2.2.spec.Grid.Size a0.2.2.spec.Grid.Wide a0.2.2.spec.Grid.High a0.2.2.spec.Earth.Lo a0.2.2.spec.Earth.Hi a0.2.2.spec.Radars a0.2.2.spec.Age a0.2.2.radars a0.2.2.kept a0.2.2.looks aX)) else (Dp F p3 p4 p5 aY aH aN aO aP aQ aR aS aT aU aV aI aW aJ aK aL a6 a7 a8 a9 aA aB aC aD aE a2 aF a3 a4 a5)
def Cu (F:Nat) (p3:(List Int)) (p4:Int) (p5:Int) (aG:mosaic_Spec) (a0:(List mosaic_Key)) (aF:((List mosaic_Message)×Int)) (a5:Int) (a6:Int) (a7:Int) (a8:Int) (a9:Int) (aA:Int) (aB:Int) (aC:Int) (aD:Int) (a1:(List mosaic_Radar)) (aE:Int) (a2:(List (ByteArray×mosaic_Radar))) (a3:(List (mosaic_Key×(List (List api_Span))))) (a4:(List (mosaic_where×(List api_Span)))):Nat→Int→Int→Int→Int→Int→Int→Int→Int→Int→(List mosaic_Radar)→Int→(List (ByteArray×mosaic_Radar))→(List (mosaic_Key×(List (List api_Span))))→(List (mosaic_where×(List api_Span)))→Int→Option Bool
  | 0,_,_,_,_,_,_,_,_,_,_,_,_,_,_,_=>none
  | n+1,aL,aM,aN,aO,aP,aQ,aR,aS,aT,aH,aU,aI,aJ,aK,aV=>Fw F p3 p4 p5 aG a0 aF a5 a6 a7 a8 a9 aA aB aC aD a1 aE a2 a3 a4 (Cu F p3 p4 p5 aG a0 aF a5 a6 a7 a8 a9 aA aB aC aD a1 aE a2 a3 a4 n) aL aM aN aO aP aQ aR aS aT aH aU aI aJ aK aV
def Et (F:Nat) (p3:(List Int)) (p4:Int) (p5:Int) (aU:mosaic_Spec) (a9:Int) (aA:Int) (aB:Int) (aC:Int) (aD:Int) (aE:Int) (aF:Int) (aG:Int) (aH:Int) (a0:(List mosaic_Radar)) (aI:Int) (a1:(List (ByteArray×mosaic_Radar))) (a2:(List (mosaic_Key×(List (List api_Span))))) (a3:(List (mosaic_where×(List api_Span)))) (a4:(List mosaic_Key)) (aT:((List mosaic_Message)×Int)) (aJ:Int) (aK:Int) (aL:Int) (aM:Int) (aN:Int) (aO:Int) (aP:Int) (aQ:Int) (aR:Int) (a5:(List mosaic_Radar)) (aS:Int) (a6:(List (ByteArray×mosaic_Radar))) (a7:(List (mosaic_Key×(List (List api_Span))))) (a8:(List (mosaic_where×(List api_Span)))):Option Bool :=
  Cu F p3 p4 p5 aU a4 aT aJ aK aL aM aN aO aP aQ aR a5 aS a6 a7 a8 F a9 aA aB aC aD aE aF aG aH a0 aI a1 a2 a3 0
def Fx (F:Nat) (p3:(List Int)) (p4:Int) (p5:Int) (aZ:mosaic_Spec) (aN:Int) (aO:Int) (aP:Int) (aQ:Int) (aR:Int) (aS:Int) (aT:Int) (aU:Int) (aV:Int) (aH:(List mosaic_Radar)) (aW:Int) (aI:(List (ByteArray×mosaic_Radar))) (aJ:(List (mosaic_Key×(List (List api_Span))))) (aK:(List (mosaic_where×(List api_Span)))) (aL:(List mosaic_Key)) (aG:((List mosaic_Message)×Int)) (aY:((List mosaic_Message)×Int)) (k5:(Int→Int→Int→Int→Int→Int→Int→Int→Int→(List mosaic_Radar)→Int→(List (ByteArray×mosaic_Radar))→(List (mosaic_Key×(List (List api_Span))))→(List (mosaic_where×(List api_Span)))→Int→Option Bool)) (a6:Int) (a7:Int) (a8:Int) (a9:Int) (aA:Int) (aB:Int) (aC:Int) (aD:Int) (aE:Int) (a2:(List mosaic_Radar)) (aF:Int) (a3:(List (ByteArray×mosaic_Radar))) (a4:(List (mosaic_Key×(List (List api_Span))))) (a5:(List (mosaic_where×(List api_Span)))) (a1:Int):Option Bool :=
  bif (decide (a1<((aG.1.length:Nat):Int))) then ((Bo aG.1 a1).bind fun aM =>
  (Ax F (mosaic_Node.mk (mosaic_Spec.mk (api_Grid.mk a6 a7 aA aB aC) (api_Span.mk aD aE) a2 aF) a3 a8 a4 a9 a5) aM).bind fun a0 =>
  bif (bif (!a0.1) then true else (a0.2.1 != 0)) then (some false) else ((ck (a1+1)).bind fun aX =>
  k5 a0.2.2.spec.Grid.X a0.2.2.spec.Grid.Y a0.2.2.horizon a0.2.2.count a0.2.2.spec.Grid.Size a0.2.2.spec.Grid.Wide a0.2.2.spec.Grid.High a0.2.2.spec.Earth.Lo a0.2.2.spec.Earth.Hi a0.2.2.spec.Radars a0.2.2.spec.Age a0.2.2.radars a0.2.2.kept a0.2.2.looks aX)) else (Et F p3 p4 p5 aZ aN aO aP aQ aR aS aT aU aV aH aW aI aJ aK aL aY a6 a7 a8 a9 aA aB aC aD aE a2 aF a3 a4 a5)
def Cv (F:Nat) (p3:(List Int)) (p4:Int) (p5:Int) (aH:mosaic_Spec) (a5:Int) (a6:Int) (a7:Int) (a8:Int) (a9:Int) (aA:Int) (aB:Int) (aC:Int) (aD:Int) (a0:(List mosaic_Radar)) (aE:Int) (a1:(List (ByteArray×mosaic_Radar))) (a2:(List (mosaic_Key×(List (List api_Span))))) (a3:(List (mosaic_where×(List api_Span)))) (a4:(List mosaic_Key)) (aF:((List mosaic_Message)×Int)) (aG:((List mosaic_Message)×Int)):Nat→Int→Int→Int→Int→Int→Int→Int→Int→Int→(List mosaic_Radar)→Int→(List (ByteArray×mosaic_Radar))→(List (mosaic_Key×(List (List api_Span))))→(List (mosaic_where×(List api_Span)))→Int→Option Bool
  | 0,_,_,_,_,_,_,_,_,_,_,_,_,_,_,_=>none
  | n+1,aM,aN,aO,aP,aQ,aR,aS,aT,aU,aI,aV,aJ,aK,aL,aW=>Fx F p3 p4 p5 aH a5 a6 a7 a8 a9 aA aB aC aD a0 aE a1 a2 a3 a4 aF aG (Cv F p3 p4 p5 aH a5 a6 a7 a8 a9 aA aB aC aD a0 aE a1 a2 a3 a4 aF aG n) aM aN aO aP aQ aR aS aT aU aI aV aJ aK aL aW
def Es (F:Nat) (p3:(List Int)) (p4:Int) (p5:Int) (aX:mosaic_Spec) (a8:Int) (a9:Int) (aA:Int) (aB:Int) (aC:Int) (aD:Int) (aE:Int) (aF:Int) (aG:Int) (a0:(List mosaic_Radar)) (aH:Int) (aI:Int) (aJ:Int) (aK:Int) (aL:Int) (aM:Int) (aN:Int) (aO:Int) (aP:Int) (aQ:Int) (a1:(List mosaic_Radar)) (aR:Int) (a2:(List (ByteArray×mosaic_Radar))) (a3:(List (mosaic_Key×(List (List api_Span))))) (a4:(List (mosaic_where×(List api_Span)))) (a5:(List (ByteArray×mosaic_Radar))) (a6:(List (mosaic_Key×(List (List api_Span))))) (a7:(List (mosaic_where×(List api_Span)))) (aU:(List mosaic_Key)):Option Bool :=
  (Dt F (mosaic_Node.mk (mosaic_Spec.mk (api_Grid.mk aI aJ aM aN aO) (api_Span.mk aP aQ) a1 aR) a5 aK a6 aL a7)).bind fun aV =>
  (Gh F (mosaic_Node.mk (mosaic_Spec.mk (api_Grid.mk a8 a9 aC aD aE) (api_Span.mk aF aG) a0 aH) a2 aA a3 aB a4) aV).bind fun aS =>
  (Dt F (mosaic_Node.mk (mosaic_Spec.mk (api_Grid.mk a8 a9 aC aD aE) (api_Span.mk aF aG) a0 aH) a2 aA a3 aB a4)).bind fun aW =>
  (Gh F (mosaic_Node.mk (mosaic_Spec.mk (api_Grid.mk aI aJ aM aN aO) (api_Span.mk aP aQ) a1 aR) a5 aK a6 aL a7) aW).bind fun aT =>
  bif (bif (aS.2 != 0) then true else (aT.2 != 0)) then (some false) else (Cv F p3 p4 p5 aX a8 a9 aA aB aC aD aE aF aG a0 aH a2 a3 a4 aU aS aT F aI aJ aK aL aM aN aO aP aQ a1 aR a5 a6 a7 0)
def Cc (a9:Int) (k6:(Int→Int→Int→Int→Int→Int→Int→Int→Int→(List mosaic_Radar)→Int→Int→Int→Int→Int→Int→Int→Int→Int→Int→(List mosaic_Radar)→Int→(List (ByteArray×mosaic_Radar))→(List (mosaic_Key×(List (List api_Span))))→(List (mosaic_where×(List api_Span)))→(List (ByteArray×mosaic_Radar))→(List (mosaic_Key×(List (List api_Span))))→(List (mosaic_where×(List api_Span)))→(List mosaic_Key)→Int→Option Bool)) (aA:Int) (aB:Int) (aC:Int) (aD:Int) (aE:Int) (aF:Int) (aG:Int) (aH:Int) (aI:Int) (a0:(List mosaic_Radar)) (aJ:Int) (aK:Int) (aL:Int) (aM:Int) (aN:Int) (aO:Int) (aP:Int) (aQ:Int) (aR:Int) (aS:Int) (a1:(List mosaic_Radar)) (aT:Int) (a2:(List (ByteArray×mosaic_Radar))) (a3:(List (mosaic_Key×(List (List api_Span))))) (a4:(List (mosaic_where×(List api_Span)))) (a5:(List (ByteArray×mosaic_Radar))) (a6:(List (mosaic_Key×(List (List api_Span))))) (a7:(List (mosaic_where×(List api_Span)))) (a8:(List mosaic_Key)):Option Bool :=
  (ck (a9+1)).bind fun aU =>
  k6 aA aB aC aD aE aF aG aH aI a0 aJ aK aL aM aN aO aP aQ aR aS a1 aT a2 a3 a4 a5 a6 a7 a8 aU
def Cj (F:Nat) (aA:Int) (aB:Int) (aC:Int) (aD:Int) (aE:Int) (aF:Int) (aG:Int) (aH:Int) (aI:Int) (a1:(List mosaic_Radar)) (aJ:Int) (a2:(List (ByteArray×mosaic_Radar))) (a3:(List (mosaic_Key×(List (List api_Span))))) (a4:(List (mosaic_where×(List api_Span)))) (aK:Int) (k6:(Int→Int→Int→Int→Int→Int→Int→Int→Int→(List mosaic_Radar)→Int→Int→Int→Int→Int→Int→Int→Int→Int→Int→(List mosaic_Radar)→Int→(List (ByteArray×mosaic_Radar))→(List (mosaic_Key×(List (List api_Span))))→(List (mosaic_where×(List api_Span)))→(List (ByteArray×mosaic_Radar))→(List (mosaic_Key×(List (List api_Span))))→(List (mosaic_where×(List api_Span)))→(List mosaic_Key)→Int→Option Bool)) (aW:mosaic_Message) (a5:(List mosaic_Key)) (aV:Int) (aL:Int) (aM:Int) (aN:Int) (aO:Int) (aP:Int) (aQ:Int) (aR:Int) (aS:Int) (aT:Int) (a6:(List mosaic_Radar)) (aU:Int) (a7:(List (ByteArray×mosaic_Radar))) (a8:(List (mosaic_Key×(List (List api_Span))))) (a9:(List (mosaic_where×(List api_Span)))):Option Bool :=
  bif (aV != 0) then ((Ax F (mosaic_Node.mk (mosaic_Spec.mk (api_Grid.mk aA aB aE aF aG) (api_Span.mk aH aI) a1 aJ) a2 aC a3 aD a4) aW).bind fun a0 =>
  Cc aK k6 aL aM aN aO aP aQ aR aS aT a6 aU a0.2.2.spec.Grid.X a0.2.2.spec.Grid.Y a0.2.2.horizon a0.2.2.count a0.2.2.spec.Grid.Size a0.2.2.spec.Grid.Wide a0.2.2.spec.Grid.High a0.2.2.spec.Earth.Lo a0.2.2.spec.Earth.Hi a0.2.2.spec.Radars a0.2.2.spec.Age a7 a8 a9 a0.2.2.radars a0.2.2.kept a0.2.2.looks a5) else (Cc aK k6 aL aM aN aO aP aQ aR aS aT a6 aU aA aB aC aD aE aF aG aH aI a1 aJ a7 a8 a9 a2 a3 a4 a5)
def Ct (F:Nat) (aC:Int) (aD:Int) (aE:Int) (aF:Int) (aG:Int) (aH:Int) (aI:Int) (aJ:Int) (aK:Int) (a3:(List mosaic_Radar)) (aL:Int) (aM:Int) (aN:Int) (aO:Int) (aP:Int) (aQ:Int) (aR:Int) (aS:Int) (aT:Int) (aU:Int) (a4:(List mosaic_Radar)) (aV:Int) (a5:(List (ByteArray×mosaic_Radar))) (a6:(List (mosaic_Key×(List (List api_Span))))) (a7:(List (mosaic_where×(List api_Span)))) (a8:(List (ByteArray×mosaic_Radar))) (a9:(List (mosaic_Key×(List (List api_Span))))) (aA:(List (mosaic_where×(List api_Span)))) (aW:Int) (k6:(Int→Int→Int→Int→Int→Int→Int→Int→Int→(List mosaic_Radar)→Int→Int→Int→Int→Int→Int→Int→Int→Int→Int→(List mosaic_Radar)→Int→(List (ByteArray×mosaic_Radar))→(List (mosaic_Key×(List (List api_Span))))→(List (mosaic_where×(List api_Span)))→(List (ByteArray×mosaic_Radar))→(List (mosaic_Key×(List (List api_Span))))→(List (mosaic_where×(List api_Span)))→(List mosaic_Key)→Int→Option Bool)) (a2:mosaic_Message) (aB:(List mosaic_Key)) (a1:Int):Option Bool :=
  bif (a1 != 1) then ((Ax F (mosaic_Node.mk (mosaic_Spec.mk (api_Grid.mk aC aD aG aH aI) (api_Span.mk aJ aK) a3 aL) a5 aE a6 aF a7) a2).bind fun a0 =>
  Cj F aM aN aO aP aQ aR aS aT aU a4 aV a8 a9 aA aW k6 a2 aB a1 a0.2.2.spec.Grid.X a0.2.2.spec.Grid.Y a0.2.2.horizon a0.2.2.count a0.2.2.spec.Grid.Size a0.2.2.spec.Grid.Wide a0.2.2.spec.Grid.High a0.2.2.spec.Earth.Lo a0.2.2.spec.Earth.Hi a0.2.2.spec.Radars a0.2.2.spec.Age a0.2.2.radars a0.2.2.kept a0.2.2.looks) else (Cj F aM aN aO aP aQ aR aS aT aU a4 aV a8 a9 aA aW k6 a2 aB a1 aC aD aE aF aG aH aI aJ aK a3 aL a5 a6 a7)
def Eu (F:Nat) (p2:(List Int)) (a9:Int) (aA:Int) (aB:Int) (aC:Int) (aD:Int) (aE:Int) (aF:Int) (aG:Int) (aH:Int) (a1:(List mosaic_Radar)) (aI:Int) (aJ:Int) (aK:Int) (aL:Int) (aM:Int) (aN:Int) (aO:Int) (aP:Int) (aQ:Int) (aR:Int) (a2:(List mosaic_Radar)) (aS:Int) (a3:(List (ByteArray×mosaic_Radar))) (a4:(List (mosaic_Key×(List (List api_Span))))) (a5:(List (mosaic_where×(List api_Span)))) (a6:(List (ByteArray×mosaic_Radar))) (a7:(List (mosaic_Key×(List (List api_Span))))) (a8:(List (mosaic_where×(List api_Span)))) (aU:(List mosaic_Key)) (a0:Int) (k6:(Int→Int→Int→Int→Int→Int→Int→Int→Int→(List mosaic_Radar)→Int→Int→Int→Int→Int→Int→Int→Int→Int→Int→(List mosaic_Radar)→Int→(List (ByteArray×mosaic_Radar))→(List (mosaic_Key×(List (List api_Span))))→(List (mosaic_where×(List api_Span)))→(List (ByteArray×mosaic_Radar))→(List (mosaic_Key×(List (List api_Span))))→(List (mosaic_where×(List api_Span)))→(List mosaic_Key)→Int→Option Bool)) (aT:mosaic_Message) (aW:Bool):Option Bool :=
  bif aW then (Cc a0 k6 a9 aA aB aC aD aE aF aG aH a1 aI aJ aK aL aM aN aO aP aQ aR a2 aS a3 a4 a5 a6 a7 a8 aU) else ((apd 32 aU ([aT.Key])).bind fun aV =>
  bif (decide (a0<((p2.length:Nat):Int))) then ((Bo p2 a0).bind fun aX =>
  (ck aX).bind fun aY =>
  (F2 aY 3).bind fun aZ =>
  Ct F a9 aA aB aC aD aE aF aG aH a1 aI aJ aK aL aM aN aO aP aQ aR a2 aS a3 a4 a5 a6 a7 a8 a0 k6 aT aV aZ) else (Ct F a9 aA aB aC aD aE aF aG aH a1 aI aJ aK aL aM aN aO aP aQ aR a2 aS a3 a4 a5 a6 a7 a8 a0 k6 aT aV 0))
def Fg (F:Nat) (p2:(List Int)) (aE:Int) (aF:Int) (aG:Int) (aH:Int) (aI:Int) (aJ:Int) (aK:Int) (aL:Int) (aM:Int) (a6:(List mosaic_Radar)) (aN:Int) (aO:Int) (aP:Int) (aQ:Int) (aR:Int) (aS:Int) (aT:Int) (aU:Int) (aV:Int) (aW:Int) (a7:(List mosaic_Radar)) (aX:Int) (a8:(List (ByteArray×mosaic_Radar))) (a9:(List (mosaic_Key×(List (List api_Span))))) (aA:(List (mosaic_where×(List api_Span)))) (aB:(List (ByteArray×mosaic_Radar))) (aC:(List (mosaic_Key×(List (List api_Span))))) (aD:(List (mosaic_where×(List api_Span)))) (a2:(List mosaic_Key)) (aY:Int) (k6:(Int→Int→Int→Int→Int→Int→Int→Int→Int→(List mosaic_Radar)→Int→Int→Int→Int→Int→Int→Int→Int→Int→Int→(List mosaic_Radar)→Int→(List (ByteArray×mosaic_Radar))→(List (mosaic_Key×(List (List api_Span))))→(List (mosaic_where×(List api_Span)))→(List (ByteArray×mosaic_Radar))→(List (mosaic_Key×(List (List api_Span))))→(List (mosaic_where×(List api_Span)))→(List mosaic_Key)→Int→Option Bool)) (a0:mosaic_Message) (a5:(Bool→Int→Option Bool)) (a1:Bool) (a4:Int):Option Bool :=
  bif (decide (a4<((a2.length:Nat):Int))) then ((gd ((a1==false&&true)) (Bo a2 a4) default).bind fun a3 =>
  (ck (a4+1)).bind fun aZ =>
  a5 (bif a1 then true else ((a3.Name==a0.Key.Name)&&(((a3.Tilt:Int)==a0.Key.Tilt)&&(((a3.Time:Int)==a0.Key.Time)&&true)))) aZ) else (Eu F p2 aE aF aG aH aI aJ aK aL aM a6 aN aO aP aQ aR aS aT aU aV aW a7 aX a8 a9 aA aB aC aD a2 aY k6 a0 a1)
def De (F:Nat) (p2:(List Int)) (a9:Int) (aA:Int) (aB:Int) (aC:Int) (aD:Int) (aE:Int) (aF:Int) (aG:Int) (aH:Int) (a0:(List mosaic_Radar)) (aI:Int) (aJ:Int) (aK:Int) (aL:Int) (aM:Int) (aN:Int) (aO:Int) (aP:Int) (aQ:Int) (aR:Int) (a1:(List mosaic_Radar)) (aS:Int) (a2:(List (ByteArray×mosaic_Radar))) (a3:(List (mosaic_Key×(List (List api_Span))))) (a4:(List (mosaic_where×(List api_Span)))) (a5:(List (ByteArray×mosaic_Radar))) (a6:(List (mosaic_Key×(List (List api_Span))))) (a7:(List (mosaic_where×(List api_Span)))) (a8:(List mosaic_Key)) (aT:Int) (k6:(Int→Int→Int→Int→Int→Int→Int→Int→Int→(List mosaic_Radar)→Int→Int→Int→Int→Int→Int→Int→Int→Int→Int→(List mosaic_Radar)→Int→(List (ByteArray×mosaic_Radar))→(List (mosaic_Key×(List (List api_Span))))→(List (mosaic_where×(List api_Span)))→(List (ByteArray×mosaic_Radar))→(List (mosaic_Key×(List (List api_Span))))→(List (mosaic_where×(List api_Span)))→(List mosaic_Key)→Int→Option Bool)) (aU:mosaic_Message):Nat→Bool→Int→Option Bool
  | 0,_,_=>none
  | n+1,aV,aW=>Fg F p2 a9 aA aB aC aD aE aF aG aH a0 aI aJ aK aL aM aN aO aP aQ aR a1 aS a2 a3 a4 a5 a6 a7 a8 aT k6 aU (De F p2 a9 aA aB aC aD aE aF aG aH a0 aI aJ aK aL aM aN aO aP aQ aR a1 aS a2 a3 a4 a5 a6 a7 a8 aT k6 aU n) aV aW
def Fy (F:Nat) (p1:(List law11_Post)) (p2:(List Int)) (p3:(List Int)) (p4:Int) (p5:Int) (aU:mosaic_Spec) (k6:(Int→Int→Int→Int→Int→Int→Int→Int→Int→(List mosaic_Radar)→Int→Int→Int→Int→Int→Int→Int→Int→Int→Int→(List mosaic_Radar)→Int→(List (ByteArray×mosaic_Radar))→(List (mosaic_Key×(List (List api_Span))))→(List (mosaic_where×(List api_Span)))→(List (ByteArray×mosaic_Radar))→(List (mosaic_Key×(List (List api_Span))))→(List (mosaic_where×(List api_Span)))→(List mosaic_Key)→Int→Option Bool)) (aA:Int) (aB:Int) (aC:Int) (aD:Int) (aE:Int) (aF:Int) (aG:Int) (aH:Int) (aI:Int) (a1:(List mosaic_Radar)) (aJ:Int) (aK:Int) (aL:Int) (aM:Int) (aN:Int) (aO:Int) (aP:Int) (aQ:Int) (aR:Int) (aS:Int) (a2:(List mosaic_Radar)) (aT:Int) (a3:(List (ByteArray×mosaic_Radar))) (a4:(List (mosaic_Key×(List (List api_Span))))) (a5:(List (mosaic_where×(List api_Span)))) (a6:(List (ByteArray×mosaic_Radar))) (a7:(List (mosaic_Key×(List (List api_Span))))) (a8:(List (mosaic_where×(List api_Span)))) (a9:(List mosaic_Key)) (a0:Int):Option Bool :=
  bif (decide (a0<((p1.length:Nat):Int))) then ((Bo p1 a0).bind fun aV =>
  (H8 F aV aU).bind fun aW =>
  De F p2 aA aB aC aD aE aF aG aH aI a1 aJ aK aL aM aN aO aP aQ aR aS a2 aT a3 a4 a5 a6 a7 a8 a9 a0 k6 aW F false 0) else (Es F p3 p4 p5 aU aA aB aC aD aE aF aG aH aI a1 aJ aK aL aM aN aO aP aQ aR aS a2 aT a3 a4 a5 a6 a7 a8 a9)
def Ba (F:Nat) (p1:(List law11_Post)) (p2:(List Int)) (p3:(List Int)) (p4:Int) (p5:Int) (a0:mosaic_Spec):Nat→Int→Int→Int→Int→Int→Int→Int→Int→Int→(List mosaic_Radar)→Int→Int→Int→Int→Int→Int→Int→Int→Int→Int→(List mosaic_Radar)→Int→(List (ByteArray×mosaic_Radar))→(List (mosaic_Key×(List (List api_Span))))→(List (mosaic_where×(List api_Span)))→(List (ByteArray×mosaic_Radar))→(List (mosaic_Key×(List (List api_Span))))→(List (mosaic_where×(List api_Span)))→(List mosaic_Key)→Int→Option Bool
  | 0,_,_,_,_,_,_,_,_,_,_,_,_,_,_,_,_,_,_,_,_,_,_,_,_,_,_,_,_,_,_=>none
  | n+1,aA,aB,aC,aD,aE,aF,aG,aH,aI,a1,aJ,aK,aL,aM,aN,aO,aP,aQ,aR,aS,a2,aT,a3,a4,a5,a6,a7,a8,a9,aU=>Fy F p1 p2 p3 p4 p5 a0 (Ba F p1 p2 p3 p4 p5 a0 n) aA aB aC aD aE aF aG aH aI a1 aJ aK aL aM aN aO aP aQ aR aS a2 aT a3 a4 a5 a6 a7 a8 a9 aU
def Gc (F:Nat) (p0:law11_Net) (p1:(List law11_Post)) (p2:(List Int)) (p3:(List Int)) (p4:Int) (p5:Int):Option Bool :=
  bif (bif (decide (((p1.length:Nat):Int)>20)) then true else (decide (((p3.length:Nat):Int)>10))) then ((law11_works F).bind fun a3 =>
  some a3) else ((Gd F (law11_Net.mk p0.Wide p0.High ((law11_Station.mk p0.Stations.1.X p0.Stations.1.Y p0.Stations.1.Z p0.Stations.1.Rose p0.Stations.1.Gates p0.Stations.1.Width p0.Stations.1.Lo p0.Stations.1.Hi),(law11_Station.mk p0.Stations.2.1.X p0.Stations.2.1.Y p0.Stations.2.1.Z p0.Stations.2.1.Rose p0.Stations.2.1.Gates p0.Stations.2.1.Width p0.Stations.2.1.Lo p0.Stations.2.1.Hi),(law11_Station.mk p0.Stations.2.2.X p0.Stations.2.2.Y p0.Stations.2.2.Z p0.Stations.2.2.Rose p0.Stations.2.2.Gates p0.Stations.2.2.Width p0.Stations.2.2.Lo p0.Stations.2.2.Hi)) p0.Count p0.Age)).bind fun a2 =>
  (Hq F a2).bind fun a4 =>
  exc a4 (fun a6=>none) (fun a0=>(Hq F a2).bind fun a5 =>
  exc a5 (fun a7=>none) (fun a1=>bif (bif (a0.2 != 0) then true else (a1.2 != 0)) then (some false) else (Ba F p1 p2 p3 p4 p5 a2 F a0.1.spec.Grid.X a0.1.spec.Grid.Y a0.1.horizon a0.1.count a0.1.spec.Grid.Size a0.1.spec.Grid.Wide a0.1.spec.Grid.High a0.1.spec.Earth.Lo a0.1.spec.Earth.Hi a0.1.spec.Radars a0.1.spec.Age a1.1.spec.Grid.X a1.1.spec.Grid.Y a1.1.horizon a1.1.count a1.1.spec.Grid.Size a1.1.spec.Grid.Wide a1.1.spec.Grid.High a1.1.spec.Earth.Lo a1.1.spec.Earth.Hi a1.1.spec.Radars a1.1.spec.Age a0.1.radars a0.1.kept a0.1.looks a1.1.radars a1.1.kept a1.1.looks ([]) 0))))
end Go.Proofs.YtkbjbnkkfifbmaaGreat
