import Derived.Test.YtkbjbnkkfifbmaaN3EB
namespace Go.Proofs.Ytkbjbnkkfifbmaa
open Go Go.RowKit Go.Eng
set_option maxRecDepth 10000
set_option maxHeartbeats 4000000
set_option linter.unusedVariables false
set_option linter.unusedSimpArgs false
structure api_Grid where
  X:Int
  Y:Int
  Size:Int
  Wide:Int
  High:Int
  deriving Inhabited,DecidableEq
def api_Grid.cells (x:api_Grid):List Value:=[.int .i64 x.X,.int .i64 x.Y,.int .i64 x.Size,.int .i64 x.Wide,.int .i64 x.High]
structure api_Span where
  Lo:Int
  Hi:Int
  deriving Inhabited,DecidableEq
def api_Span.cells (x:api_Span):List Value:=[.int .i64 x.Lo,.int .i64 x.Hi]
theorem api_Span.cells_len (x:api_Span):(api_Span.cells x).length=2:=rfl
structure api_Site where
  Name:ByteArray
  X:Int
  Y:Int
  Z:Int
  Rose:Int
  Gates:Int
  Step:Int
  Width:Int
  deriving Inhabited,DecidableEq
def api_Site.cells (x:api_Site):List Value:=[.string x.Name,.int .i64 x.X,.int .i64 x.Y,.int .i64 x.Z,.int .i64 x.Rose,.int .i64 x.Gates,.int .i64 x.Step,.int .i64 x.Width]
structure mosaic_Radar where
  Site:api_Site
  Offset:api_Span
  deriving Inhabited,DecidableEq
def mosaic_Radar.cells (x:mosaic_Radar):List Value:=[.string x.Site.Name,.int .i64 x.Site.X,.int .i64 x.Site.Y,.int .i64 x.Site.Z,.int .i64 x.Site.Rose,.int .i64 x.Site.Gates,.int .i64 x.Site.Step,.int .i64 x.Site.Width,.int .i64 x.Offset.Lo,.int .i64 x.Offset.Hi]
theorem mosaic_Radar.cells_len (x:mosaic_Radar):(mosaic_Radar.cells x).length=10:=rfl
structure mosaic_Spec where
  Grid:api_Grid
  Earth:api_Span
  Radars:(List mosaic_Radar)
  Age:Int
  deriving Inhabited,DecidableEq
structure mosaic_Key where
  Name:ByteArray
  Tilt:Int
  Time:Int
  deriving Inhabited,DecidableEq
def mosaic_Key.cells (x:mosaic_Key):List Value:=[.string x.Name,.int .i64 x.Tilt,.int .i64 x.Time]
theorem mosaic_Key.cells_len (x:mosaic_Key):(mosaic_Key.cells x).length=3:=rfl
structure mosaic_where where
  name:ByteArray
  tilt:Int
  deriving Inhabited,DecidableEq
def mosaic_where.cells (x:mosaic_where):List Value:=[.string x.name,.int .i64 x.tilt]
structure mosaic_Node where
  spec:mosaic_Spec
  radars:(List (ByteArray×mosaic_Radar))
  horizon:Int
  kept:(List (mosaic_Key×(List (List api_Span))))
  count:Int
  looks:(List (mosaic_where×(List api_Span)))
  deriving Inhabited,DecidableEq
structure mosaic_Message where
  Key:mosaic_Key
  Vals:(List api_Span)
  deriving Inhabited,DecidableEq
structure beam_slant where
  c:Int
  s:Int
  d:Int
  deriving Inhabited,DecidableEq
def beam_slant.cells (x:beam_slant):List Value:=[.int .i64 x.c,.int .i64 x.s,.int .i64 x.d]
structure beam_vector where
  x:Int
  y:Int
  length:Int
  deriving Inhabited,DecidableEq
def beam_vector.cells (x:beam_vector):List Value:=[.int .i64 x.x,.int .i64 x.y,.int .i64 x.length]
structure mosaic_used where
  Key:mosaic_Key
  vals:(List api_Span)
  bands:(List api_Span)
  deriving Inhabited,DecidableEq
structure mosaic_Pixel where
  Value_:api_Span
  Key:mosaic_Key
  deriving Inhabited,DecidableEq
def mosaic_Pixel.cells (x:mosaic_Pixel):List Value:=[.int .i64 x.Value_.Lo,.int .i64 x.Value_.Hi,.string x.Key.Name,.int .i64 x.Key.Tilt,.int .i64 x.Key.Time]
theorem mosaic_Pixel.cells_len (x:mosaic_Pixel):(mosaic_Pixel.cells x).length=5:=rfl
structure law11_Station where
  X:Int
  Y:Int
  Z:Int
  Rose:Int
  Gates:Int
  Width:Int
  Lo:Int
  Hi:Int
  deriving Inhabited,DecidableEq
def law11_Station.cells (x:law11_Station):List Value:=[.int .i16 x.X,.int .i16 x.Y,.int .u16 x.Z,.int .u8 x.Rose,.int .u8 x.Gates,.int .u8 x.Width,.int .u16 x.Lo,.int .u16 x.Hi]
structure law11_Net where
  Wide:Int
  High:Int
  Stations:(law11_Station×law11_Station×law11_Station)
  Count:Int
  Age:Int
  deriving Inhabited,DecidableEq
def law11_Net.cells (x:law11_Net):List Value:=[.int .u8 x.Wide,.int .u8 x.High,.int .i16 x.Stations.1.X,.int .i16 x.Stations.1.Y,.int .u16 x.Stations.1.Z,.int .u8 x.Stations.1.Rose,.int .u8 x.Stations.1.Gates,.int .u8 x.Stations.1.Width,.int .u16 x.Stations.1.Lo,.int .u16 x.Stations.1.Hi,.int .i16 x.Stations.2.1.X,.int .i16 x.Stations.2.1.Y,.int .u16 x.Stations.2.1.Z,.int .u8 x.Stations.2.1.Rose,.int .u8 x.Stations.2.1.Gates,.int .u8 x.Stations.2.1.Width,.int .u16 x.Stations.2.1.Lo,.int .u16 x.Stations.2.1.Hi,.int .i16 x.Stations.2.2.X,.int .i16 x.Stations.2.2.Y,.int .u16 x.Stations.2.2.Z,.int .u8 x.Stations.2.2.Rose,.int .u8 x.Stations.2.2.Gates,.int .u8 x.Stations.2.2.Width,.int .u16 x.Stations.2.2.Lo,.int .u16 x.Stations.2.2.Hi,.int .u8 x.Count,.int .u16 x.Age]
structure law11_Post where
  Radar:Int
  Tilt:Int
  Time:Int
  Vals:(List Int)
  Wide:Int
  deriving Inhabited,DecidableEq
structure mosaic_Clash where
  Pixel:Int
  A:mosaic_Key
  B:mosaic_Key
  deriving Inhabited,DecidableEq
def mosaic_Clash.cells (x:mosaic_Clash):List Value:=[.int .i64 x.Pixel,.string x.A.Name,.int .i64 x.A.Tilt,.int .i64 x.A.Time,.string x.B.Name,.int .i64 x.B.Tilt,.int .i64 x.B.Time]
theorem mosaic_Clash.cells_len (x:mosaic_Clash):(mosaic_Clash.cells x).length=7:=rfl
abbrev api_Grid.ar (x:api_Grid):Array Value:=#[.int .i64 x.X,.int .i64 x.Y,.int .i64 x.Size,.int .i64 x.Wide,.int .i64 x.High]
abbrev api_Grid.ag (x:api_Grid):Value:=.agg #[.int .i64 x.X,.int .i64 x.Y,.int .i64 x.Size,.int .i64 x.Wide,.int .i64 x.High]
abbrev api_Site.ar (x:api_Site):Array Value:=#[.string x.Name,.int .i64 x.X,.int .i64 x.Y,.int .i64 x.Z,.int .i64 x.Rose,.int .i64 x.Gates,.int .i64 x.Step,.int .i64 x.Width]
abbrev api_Site.ag (x:api_Site):Value:=.agg #[.string x.Name,.int .i64 x.X,.int .i64 x.Y,.int .i64 x.Z,.int .i64 x.Rose,.int .i64 x.Gates,.int .i64 x.Step,.int .i64 x.Width]
abbrev mosaic_Radar.ar (x:mosaic_Radar):Array Value:=#[.string x.Site.Name,.int .i64 x.Site.X,.int .i64 x.Site.Y,.int .i64 x.Site.Z,.int .i64 x.Site.Rose,.int .i64 x.Site.Gates,.int .i64 x.Site.Step,.int .i64 x.Site.Width,.int .i64 x.Offset.Lo,.int .i64 x.Offset.Hi]
abbrev mosaic_Radar.ag (x:mosaic_Radar):Value:=.agg #[.string x.Site.Name,.int .i64 x.Site.X,.int .i64 x.Site.Y,.int .i64 x.Site.Z,.int .i64 x.Site.Rose,.int .i64 x.Site.Gates,.int .i64 x.Site.Step,.int .i64 x.Site.Width,.int .i64 x.Offset.Lo,.int .i64 x.Offset.Hi]
abbrev mosaic_Key.ar (x:mosaic_Key):Array Value:=#[.string x.Name,.int .i64 x.Tilt,.int .i64 x.Time]
abbrev mosaic_Key.ag (x:mosaic_Key):Value:=.agg #[.string x.Name,.int .i64 x.Tilt,.int .i64 x.Time]
abbrev beam_slant.ar (x:beam_slant):Array Value:=#[.int .i64 x.c,.int .i64 x.s,.int .i64 x.d]
abbrev beam_slant.ag (x:beam_slant):Value:=.agg #[.int .i64 x.c,.int .i64 x.s,.int .i64 x.d]
abbrev beam_vector.ar (x:beam_vector):Array Value:=#[.int .i64 x.x,.int .i64 x.y,.int .i64 x.length]
abbrev beam_vector.ag (x:beam_vector):Value:=.agg #[.int .i64 x.x,.int .i64 x.y,.int .i64 x.length]
abbrev mosaic_Pixel.ar (x:mosaic_Pixel):Array Value:=#[.int .i64 x.Value_.Lo,.int .i64 x.Value_.Hi,.string x.Key.Name,.int .i64 x.Key.Tilt,.int .i64 x.Key.Time]
abbrev mosaic_Pixel.ag (x:mosaic_Pixel):Value:=.agg #[.int .i64 x.Value_.Lo,.int .i64 x.Value_.Hi,.string x.Key.Name,.int .i64 x.Key.Tilt,.int .i64 x.Key.Time]
abbrev law11_Station.ar (x:law11_Station):Array Value:=#[.int .i16 x.X,.int .i16 x.Y,.int .u16 x.Z,.int .u8 x.Rose,.int .u8 x.Gates,.int .u8 x.Width,.int .u16 x.Lo,.int .u16 x.Hi]
abbrev law11_Station.ag (x:law11_Station):Value:=.agg #[.int .i16 x.X,.int .i16 x.Y,.int .u16 x.Z,.int .u8 x.Rose,.int .u8 x.Gates,.int .u8 x.Width,.int .u16 x.Lo,.int .u16 x.Hi]
abbrev law11_Net.ar (x:law11_Net):Array Value:=#[.int .u8 x.Wide,.int .u8 x.High,.int .i16 x.Stations.1.X,.int .i16 x.Stations.1.Y,.int .u16 x.Stations.1.Z,.int .u8 x.Stations.1.Rose,.int .u8 x.Stations.1.Gates,.int .u8 x.Stations.1.Width,.int .u16 x.Stations.1.Lo,.int .u16 x.Stations.1.Hi,.int .i16 x.Stations.2.1.X,.int .i16 x.Stations.2.1.Y,.int .u16 x.Stations.2.1.Z,.int .u8 x.Stations.2.1.Rose,.int .u8 x.Stations.2.1.Gates,.int .u8 x.Stations.2.1.Width,.int .u16 x.Stations.2.1.Lo,.int .u16 x.Stations.2.1.Hi,.int .i16 x.Stations.2.2.X,.int .i16 x.Stations.2.2.Y,.int .u16 x.Stations.2.2.Z,.int .u8 x.Stations.2.2.Rose,.int .u8 x.Stations.2.2.Gates,.int .u8 x.Stations.2.2.Width,.int .u16 x.Stations.2.2.Lo,.int .u16 x.Stations.2.2.Hi,.int .u8 x.Count,.int .u16 x.Age]
abbrev law11_Net.ag (x:law11_Net):Value:=.agg #[.int .u8 x.Wide,.int .u8 x.High,.int .i16 x.Stations.1.X,.int .i16 x.Stations.1.Y,.int .u16 x.Stations.1.Z,.int .u8 x.Stations.1.Rose,.int .u8 x.Stations.1.Gates,.int .u8 x.Stations.1.Width,.int .u16 x.Stations.1.Lo,.int .u16 x.Stations.1.Hi,.int .i16 x.Stations.2.1.X,.int .i16 x.Stations.2.1.Y,.int .u16 x.Stations.2.1.Z,.int .u8 x.Stations.2.1.Rose,.int .u8 x.Stations.2.1.Gates,.int .u8 x.Stations.2.1.Width,.int .u16 x.Stations.2.1.Lo,.int .u16 x.Stations.2.1.Hi,.int .i16 x.Stations.2.2.X,.int .i16 x.Stations.2.2.Y,.int .u16 x.Stations.2.2.Z,.int .u8 x.Stations.2.2.Rose,.int .u8 x.Stations.2.2.Gates,.int .u8 x.Stations.2.2.Width,.int .u16 x.Stations.2.2.Lo,.int .u16 x.Stations.2.2.Hi,.int .u8 x.Count,.int .u16 x.Age]
abbrev mosaic_Clash.ar (x:mosaic_Clash):Array Value:=#[.int .i64 x.Pixel,.string x.A.Name,.int .i64 x.A.Tilt,.int .i64 x.A.Time,.string x.B.Name,.int .i64 x.B.Tilt,.int .i64 x.B.Time]
abbrev mosaic_Clash.ag (x:mosaic_Clash):Value:=.agg #[.int .i64 x.Pixel,.string x.A.Name,.int .i64 x.A.Tilt,.int .i64 x.A.Time,.string x.B.Name,.int .i64 x.B.Tilt,.int .i64 x.B.Time]
abbrev mosaic_Node.ax (x:mosaic_Node) (adg1_:Option Addr) (capg2_:Nat) (mg3_:Nat) (mg4_:Nat) (mg5_:Nat):Array Value:=#[.int .i64 x.spec.Grid.X,.int .i64 x.spec.Grid.Y,.int .i64 x.spec.Grid.Size,.int .i64 x.spec.Grid.Wide,.int .i64 x.spec.Grid.High,.int .i64 x.spec.Earth.Lo,.int .i64 x.spec.Earth.Hi,.slice adg1_ x.spec.Radars.length capg2_,.int .i64 x.spec.Age,.map (some mg3_),.int .i64 x.horizon,.map (some mg4_),.int .i64 x.count,.map (some mg5_)]
abbrev mosaic_Spec.ax (x:mosaic_Spec) (adg1_:Option Addr) (capg2_:Nat):Array Value:=#[.int .i64 x.Grid.X,.int .i64 x.Grid.Y,.int .i64 x.Grid.Size,.int .i64 x.Grid.Wide,.int .i64 x.Grid.High,.int .i64 x.Earth.Lo,.int .i64 x.Earth.Hi,.slice adg1_ x.Radars.length capg2_,.int .i64 x.Age]
abbrev mosaic_used.ax (x:mosaic_used) (adg1_:Option Addr) (capg2_:Nat) (adg3_:Option Addr) (capg4_:Nat):Array Value:=#[.string x.Key.Name,.int .i64 x.Key.Tilt,.int .i64 x.Key.Time,.slice adg1_ x.vals.length capg2_,.slice adg3_ x.bands.length capg4_]
abbrev law11_Post.ax (x:law11_Post) (adg1_:Option Addr) (capg2_:Nat):Array Value:=#[.int .u8 x.Radar,.int .u8 x.Tilt,.int .u16 x.Time,.slice adg1_ x.Vals.length capg2_,.int .u8 x.Wide]
abbrev api_Grid.e0 (x:api_Grid):Bool:=(((x.X:Int)==0)&&(((x.Y:Int)==0)&&(((x.Size:Int)==0)&&(((x.Wide:Int)==0)&&(((x.High:Int)==0)&&true)))))
abbrev api_Site.e0 (x:api_Site):Bool:=((x.Name==ByteArray.empty)&&(((x.X:Int)==0)&&(((x.Y:Int)==0)&&(((x.Z:Int)==0)&&(((x.Rose:Int)==0)&&(((x.Gates:Int)==0)&&(((x.Step:Int)==0)&&(((x.Width:Int)==0)&&true))))))))
abbrev mosaic_Radar.e0 (x:mosaic_Radar):Bool:=((x.Site.Name==ByteArray.empty)&&(((x.Site.X:Int)==0)&&(((x.Site.Y:Int)==0)&&(((x.Site.Z:Int)==0)&&(((x.Site.Rose:Int)==0)&&(((x.Site.Gates:Int)==0)&&(((x.Site.Step:Int)==0)&&(((x.Site.Width:Int)==0)&&(((x.Offset.Lo:Int)==0)&&(((x.Offset.Hi:Int)==0)&&true))))))))))
abbrev mosaic_Key.e0 (x:mosaic_Key):Bool:=((x.Name==ByteArray.empty)&&(((x.Tilt:Int)==0)&&(((x.Time:Int)==0)&&true)))
abbrev beam_slant.e0 (x:beam_slant):Bool:=(((x.c:Int)==0)&&(((x.s:Int)==0)&&(((x.d:Int)==0)&&true)))
abbrev beam_vector.e0 (x:beam_vector):Bool:=(((x.x:Int)==0)&&(((x.y:Int)==0)&&(((x.length:Int)==0)&&true)))
abbrev mosaic_Pixel.e0 (x:mosaic_Pixel):Bool:=(((x.Value_.Lo:Int)==0)&&(((x.Value_.Hi:Int)==0)&&((x.Key.Name==ByteArray.empty)&&(((x.Key.Tilt:Int)==0)&&(((x.Key.Time:Int)==0)&&true)))))
abbrev law11_Station.e0 (x:law11_Station):Bool:=(((x.X:Int)==0)&&(((x.Y:Int)==0)&&(((x.Z:Int)==0)&&(((x.Rose:Int)==0)&&(((x.Gates:Int)==0)&&(((x.Width:Int)==0)&&(((x.Lo:Int)==0)&&(((x.Hi:Int)==0)&&true))))))))
abbrev law11_Net.e0 (x:law11_Net):Bool:=(((x.Wide:Int)==0)&&(((x.High:Int)==0)&&(((x.Stations.1.X:Int)==0)&&(((x.Stations.1.Y:Int)==0)&&(((x.Stations.1.Z:Int)==0)&&(((x.Stations.1.Rose:Int)==0)&&(((x.Stations.1.Gates:Int)==0)&&(((x.Stations.1.Width:Int)==0)&&(((x.Stations.1.Lo:Int)==0)&&(((x.Stations.1.Hi:Int)==0)&&(((x.Stations.2.1.X:Int)==0)&&(((x.Stations.2.1.Y:Int)==0)&&(((x.Stations.2.1.Z:Int)==0)&&(((x.Stations.2.1.Rose:Int)==0)&&(((x.Stations.2.1.Gates:Int)==0)&&(((x.Stations.2.1.Width:Int)==0)&&(((x.Stations.2.1.Lo:Int)==0)&&(((x.Stations.2.1.Hi:Int)==0)&&(((x.Stations.2.2.X:Int)==0)&&(((x.Stations.2.2.Y:Int)==0)&&(((x.Stations.2.2.Z:Int)==0)&&(((x.Stations.2.2.Rose:Int)==0)&&(((x.Stations.2.2.Gates:Int)==0)&&(((x.Stations.2.2.Width:Int)==0)&&(((x.Stations.2.2.Lo:Int)==0)&&(((x.Stations.2.2.Hi:Int)==0)&&(((x.Count:Int)==0)&&(((x.Age:Int)==0)&&true))))))))))))))))))))))))))))
abbrev mosaic_Clash.e0 (x:mosaic_Clash):Bool:=(((x.Pixel:Int)==0)&&((x.A.Name==ByteArray.empty)&&(((x.A.Tilt:Int)==0)&&(((x.A.Time:Int)==0)&&((x.B.Name==ByteArray.empty)&&(((x.B.Tilt:Int)==0)&&(((x.B.Time:Int)==0)&&true)))))))
abbrev z72:Array Value:=#[.string ByteArray.empty,.int .i64 0,.int .i64 0,.int .i64 0,.int .i64 0,.int .i64 0,.int .i64 0,.int .i64 0,.int .i64 0,.int .i64 0]
abbrev z38:Array Value:=#[.int .i64 0,.int .i64 0,.int .i64 0,.int .i64 0,.int .i64 0,.int .i64 0,.int .i64 0,.slice none 0 0,.int .i64 0]
abbrev z70:Array Value:=#[.string ByteArray.empty,.int .i64 0,.int .i64 0,.int .i64 0,.int .i64 0,.int .i64 0,.int .i64 0,.int .i64 0]
abbrev z25:Array Value:=#[.int .i16 0,.int .i16 0,.int .u16 0,.int .u8 0,.int .u8 0,.int .u8 0,.int .u16 0,.int .u16 0]
abbrev z89:Array Value:=#[.string ByteArray.empty,.int .i64 0,.int .i64 0,.slice none 0 0,.slice none 0 0]
abbrev z66:Array Value:=#[.int .i64 0,.int .i64 0,.string ByteArray.empty,.int .i64 0,.int .i64 0]
abbrev z49:Array Value:=#[.string ByteArray.empty,.int .i64 0,.int .i64 0,.slice none 0 0]
def Rp47:Rel (List api_Span):=fun μ cs x=>∃(ad1:Option Addr) (cap2:Nat),cs=[.slice ad1 x.length cap2]∧ArrM μ 2 api_Span.cells ad1 cap2 x
theorem Rp47.mono:Rel.Mono Rp47:=by
  intro μ ν cs x hle h;obtain ⟨ad1,cap2,rfl,f0⟩:=h;exact ⟨ad1,cap2,rfl,f0.mono hle⟩
theorem Rp47.one:Rel.One 1 Rp47:=by
  intro μ cs x h;obtain ⟨ad1,cap2,rfl,f0⟩:=h
  all_goals rfl
def Rp89:Rel mosaic_used:=fun μ cs x=>∃(ad1:Option Addr) (cap2:Nat) (ad3:Option Addr) (cap4:Nat),cs=[.string x.Key.Name,.int .i64 x.Key.Tilt,.int .i64 x.Key.Time,.slice ad1 x.vals.length cap2,.slice ad3 x.bands.length cap4]∧ArrM μ 2 api_Span.cells ad1 cap2 x.vals∧ArrM μ 2 api_Span.cells ad3 cap4 x.bands
theorem Rp89.mono:Rel.Mono Rp89:=by
  intro μ ν cs x hle h;obtain ⟨ad1,cap2,ad3,cap4,rfl,f0,f1⟩:=h;exact ⟨ad1,cap2,ad3,cap4,rfl,f0.mono hle,f1.mono hle⟩
theorem Rp89.one:Rel.One 5 Rp89:=by
  intro μ cs x h;obtain ⟨ad1,cap2,ad3,cap4,rfl,f0,f1⟩:=h
  all_goals rfl
def Rp51:Rel law11_Post:=fun μ cs x=>∃(ad1:Option Addr) (cap2:Nat),cs=[.int .u8 x.Radar,.int .u8 x.Tilt,.int .u16 x.Time,.slice ad1 x.Vals.length cap2,.int .u8 x.Wide]∧ArrM μ 1 (fK .u16) ad1 cap2 x.Vals
theorem Rp51.mono:Rel.Mono Rp51:=by
  intro μ ν cs x hle h;obtain ⟨ad1,cap2,rfl,f0⟩:=h;exact ⟨ad1,cap2,rfl,f0.mono hle⟩
def F2 (p0:ByteArray):Bool:=Yn p0
def or3 (x y z:Int):Int:=if x≠0 then x else if y≠0 then y else z
def E7 (x y:mosaic_Key):Int:=or3 (if x.Time<y.Time then -1 else if y.Time<x.Time then 1 else 0) (if P0 x.Name y.Name then -1 else if Mv x.Name y.Name then 1 else 0) (if x.Tilt<y.Tilt then -1 else if y.Tilt<x.Tilt then 1 else 0)
def D4 (l:List mosaic_Key):List mosaic_Key:=Po E7 l
def Fw (F:Nat) (p0:mosaic_Node):Option (List mosaic_Key):=if p0.kept.length≤1000000 then some (D4 (p0.kept.map (·.1))) else none
def G8 (F:Nat) (p0:List (List api_Span)) (p1:Int) (p2:List (List api_Span)):Option (List (List api_Span)):=if 0≤p1∧p1≤(p0.length:Int)∧p2.length=1∧p0.length≤1000000 then some (p0.take p1.toNat++p2++p0.drop p1.toNat) else none
def A4 (p0:Int) (p1:Int) (p2:Int):Bool :=
  bif (decide (p1≤p0)) then (decide (p0≤p2)) else false
def Br (c2:Bool):Int :=
  bif c2 then (3) else (0)
def B3 (p0:api_Grid):Int :=
  bif (!(A4 p0.X (-1048576) 1048576)) then (Br (!(A4 p0.X (-1048576) 1048576))) else (bif (!(A4 p0.Y (-1048576) 1048576)) then (Br (!(A4 p0.Y (-1048576) 1048576))) else (bif (!(A4 p0.Size 1 10000)) then (Br (!(A4 p0.Size 1 10000))) else (bif (!(A4 p0.Wide 1 64)) then (Br (!(A4 p0.Wide 1 64))) else (Br (!(A4 p0.High 1 64))))))
def By (p0:api_Span) (p1:Int) (p2:Int):Bool :=
  bif (bif (decide (p1≤p0.Lo)) then (decide (p0.Lo≤p0.Hi)) else false) then (decide (p0.Hi≤p2)) else false
def Bh (p0:Int) (p1:Int) (p2:Int):Bool :=
  bif (decide (p1≤p0)) then (decide (p0≤p2)) else false
def J8 (F:Nat) (p0:ByteArray):Option Bool :=
  (gd (((bif (!(sEq p0 (⟨#[]⟩:ByteArray))) then (decide (((p0.size:Nat):Int)≤12)) else false)==true&&true)) (Vs p0 (0:Int)) default).bind fun u1 =>
  (gd (((bif (bif (!(sEq p0 (⟨#[]⟩:ByteArray))) then (decide (((p0.size:Nat):Int)≤12)) else false) then (decide (u1≥97)) else false)==true&&true)) (Vs p0 (0:Int)) default).bind fun u2 =>
  some (bif (bif (bif (bif (!(sEq p0 (⟨#[]⟩:ByteArray))) then (decide (((p0.size:Nat):Int)≤12)) else false) then (decide (u1≥97)) else false) then (decide (u2≤122)) else false) then (!(F2 p0)) else false)
def Ca (c4:Bool):Option Int :=
  bif c4 then (some 3) else (some 0)
def Cs (p0:api_Site) (c3:Bool):Option Int :=
  bif c3 then (some 3) else (bif (!(A4 p0.Rose 1 90)) then (Ca (!(A4 p0.Rose 1 90))) else (bif (!(A4 p0.Gates 1 200)) then (Ca (!(A4 p0.Gates 1 200))) else (bif (!(A4 p0.Step 50 2000)) then (Ca (!(A4 p0.Step 50 2000))) else (Ca (!(A4 p0.Width 0 8))))))
def beam_CheckSite (F:Nat) (p0:api_Site):Option Int :=
  (J8 F p0.Name).bind fun y2 =>
  bif (!y2) then (some 10) else (bif (!(A4 p0.X (-1048576) 1048576)) then (Cs p0 (!(A4 p0.X (-1048576) 1048576))) else (bif (!(A4 p0.Y (-1048576) 1048576)) then (Cs p0 (!(A4 p0.Y (-1048576) 1048576))) else (Cs p0 (!(A4 p0.Z 0 20000)))))
def H5 (a0:(List (ByteArray×Bool))):Option Int :=
  some 0
def Fl (F:Nat) (p0:mosaic_Spec) (k2:((List (ByteArray×Bool))→Int→Option Int)) (a1:(List (ByteArray×Bool))) (a2:Int):Option Int :=
  bif (decide (a2<((p0.Radars.length:Nat):Int))) then ((Bz p0.Radars a2).bind fun a0 =>
  (beam_CheckSite F a0.Site).bind fun a3 =>
  bif (a3 != 0) then (some a3) else (bif ((lkM a1 a0.Site.Name).getD false) then (some 5) else (bif (!(By a0.Offset (-3600) 3600)) then (some 3) else ((ck (a2+1)).bind fun a4 =>
  k2 (upM a1 a0.Site.Name true) a4)))) else (H5 a1)
def Dd (F:Nat) (p0:mosaic_Spec):Nat→(List (ByteArray×Bool))→Int→Option Int
  | 0,_,_=>none
  | n+1,a0,a1=>Fl F p0 (Dd F p0 n) a0 a1
def G5 (F:Nat) (p0:mosaic_Spec):Option Int :=
  bif ((B3 p0.Grid) != 0) then (some (B3 p0.Grid)) else (bif (bif (!(By p0.Earth 1000000 100000000)) then true else (!(Bh p0.Age 1 86400))) then (some 3) else (bif (((p0.Radars.length:Nat):Int)==0) then (some 18) else (bif (decide (((p0.Radars.length:Nat):Int)>32)) then (some 9) else (Dd F p0 F ([]:List (ByteArray×Bool)) 0))))
def Au (F:Nat) (p0:(List mosaic_Radar)):Option (List mosaic_Radar) :=
  (apd 88 ([]:List mosaic_Radar) p0).bind fun l5 =>
  some l5
def J6 (p0:mosaic_Spec) (y7:(List mosaic_Radar)) (a0:(List (ByteArray×mosaic_Radar))):Option (Except Int (mosaic_Node×Int)) :=
  some (.ok ((mosaic_Node.mk (mosaic_Spec.mk p0.Grid p0.Earth y7 p0.Age) a0 0 ([]:List (mosaic_Key×(List (List api_Span)))) 0 ([]:List (mosaic_where×(List api_Span)))),0))
def Gu (p0:mosaic_Spec) (y7:(List mosaic_Radar)) (k2:((List (ByteArray×mosaic_Radar))→Int→Option (Except Int (mosaic_Node×Int)))) (a1:(List (ByteArray×mosaic_Radar))) (a0:Int):Option (Except Int (mosaic_Node×Int)) :=
  bif (decide (a0<((y7.length:Nat):Int))) then ((Bz y7 a0).bind fun a2 =>
  (ck (a0+1)).bind fun a3 =>
  k2 (upM a1 a2.Site.Name a2) a3) else (J6 p0 y7 a1)
def Em (p0:mosaic_Spec) (y7:(List mosaic_Radar)):Nat→(List (ByteArray×mosaic_Radar))→Int→Option (Except Int (mosaic_Node×Int))
  | 0,_,_=>none
  | n+1,a0,a1=>Gu p0 y7 (Em p0 y7 n) a0 a1
def Ex (F:Nat) (p0:mosaic_Spec):Option (Except Int (mosaic_Node×Int)) :=
  (G5 F p0).bind fun y5 =>
  bif (y5 != 0) then (some (.error y5)) else ((Au F p0.Radars).bind fun y7 =>
  Em p0 y7 F ([]:List (ByteArray×mosaic_Radar)) 0)
def C9 (F:Nat) (p0:mosaic_Node):Option Bool :=
  some false
def Ep:Option Int :=
  some 0
def D8 (p1:mosaic_Message) (k2:(Int→Option Int)) (a0:Int):Option Int :=
  bif (decide (a0<((p1.Vals.length:Nat):Int))) then ((Bz p1.Vals a0).bind fun a1 =>
  bif (!(By a1 0 1000000)) then (some 3) else ((ck (a0+1)).bind fun a2 =>
  k2 a2)) else (Ep)
def Bw (p1:mosaic_Message):Nat→Int→Option Int
  | 0,_=>none
  | n+1,a0=>D8 p1 (Bw p1 n) a0
def D3 (F:Nat) (p0:mosaic_Node) (p1:mosaic_Message):Option Int :=
  bif (!((lkM p0.radars p1.Key.Name).isSome)) then (some 4) else (bif (bif (!(Bh p1.Key.Tilt 0 256)) then true else (!(Bh p1.Key.Time 0 4294967296))) then (some 3) else ((ck (p0.spec.Grid.Wide*p0.spec.Grid.High)).bind fun a0 =>
  bif (((p1.Vals.length:Nat):Int) != a0) then (some 11) else (Bw p1 F 0)))
def J5:Option Int :=
  some 0
def Gr (p0:(List Int)) (k2:(Int→Option Int)) (a0:Int):Option Int :=
  bif (decide (a0<((p0.length:Nat):Int))) then ((Bz p0 a0).bind fun a1 =>
  bif (a1 != 0) then (some a1) else ((ck (a0+1)).bind fun a2 =>
  k2 a2)) else (J5)
def Ek (p0:(List Int)):Nat→Int→Option Int
  | 0,_=>none
  | n+1,a0=>Gr p0 (Ek p0 n) a0
def Hh (F:Nat) (p0:(List Int)):Option Int :=
  Ek p0 F 0
def Bx (p0:Int):Bool :=
  p0 != p0
def A9 (p0:Int) (p1:Int):Int :=
  bif (Bx p0) then (bif (Bx p1) then (0) else (-1)) else (bif (Bx p1) then (1) else (bif (decide (p0<p1)) then (-1) else (bif (decide (p0>p1)) then (1) else (0))))
def E2 (F:Nat) (p0:api_Span) (p1:api_Span):Option Int :=
  (Hh F ([(A9 p0.Lo p1.Lo),(A9 p0.Hi p1.Hi)])).bind fun y4 =>
  some y4
def Ag (p0:(List api_Span)) (p1:(List api_Span)):Option Int :=
  bif (decide (((p0.length:Nat):Int)<((p1.length:Nat):Int))) then (some (-1)) else (some 0)
def Af (F:Nat) (p0:(List api_Span)) (p1:(List api_Span)) (k2:(Int→Option Int)) (a0:Int):Option Int :=
  bif (decide (a0<((p0.length:Nat):Int))) then ((Bz p0 a0).bind fun a2 =>
  bif (decide (a0≥((p1.length:Nat):Int))) then (some 1) else ((Bz p1 a0).bind fun a3 =>
  (E2 F a2 a3).bind fun a1 =>
  bif (a1 != 0) then (some a1) else ((ck (a0+1)).bind fun a4 =>
  k2 a4))) else (Ag p0 p1)
def Aa (F:Nat) (p0:(List api_Span)) (p1:(List api_Span)):Nat→Int→Option Int
  | 0,_=>none
  | n+1,a0=>Af F p0 p1 (Aa F p0 p1 n) a0
def Ak (F:Nat) (p0:(List api_Span)) (p1:(List api_Span)):Option Int :=
  Aa F p0 p1 F 0
def E0 (F:Nat) (p0:(List api_Span)) (p1:(List api_Span)):Option Int :=
  (Ak F p0 p1).bind fun y8 =>
  some y8
def Ao (F:Nat) (p0:(List (List api_Span))) (p1:(List api_Span)) (a0:Int):Option (Int×Bool) :=
  bif (decide (a0<((p0.length:Nat):Int))) then ((Bz p0 a0).bind fun a1 =>
  (E0 F a1 p1).bind fun a2 =>
  some (a0,a2==0)) else (some (a0,false))
def An (F:Nat) (p0:(List (List api_Span))) (p1:(List api_Span)) (k2:(Int→Int→Option (Int×Bool))) (a1:Int) (a0:Int):Option (Int×Bool) :=
  bif (decide (a0<a1)) then ((ck (a0+a1)).bind fun a4 =>
  (ck (Int.fdiv (IntKind.u64.wrap a4) 2)).bind fun a2 =>
  (Bz p0 a2).bind fun a3 =>
  (E0 F a3 p1).bind fun a6 =>
  bif (decide (a6<0)) then ((ck (a2+1)).bind fun a5 =>
  k2 a1 a5) else (k2 a2 a0)) else (Ao F p0 p1 a0)
def Ab (F:Nat) (p0:(List (List api_Span))) (p1:(List api_Span)):Nat→Int→Int→Option (Int×Bool)
  | 0,_,_=>none
  | n+1,a0,a1=>An F p0 p1 (Ab F p0 p1 n) a0 a1
def Ap (F:Nat) (p0:(List (List api_Span))) (p1:(List api_Span)):Option (Int×Bool) :=
  Ab F p0 p1 F ((p0.length:Nat):Int) 0
def C3 (F:Nat) (p0:mosaic_Node) (p1:mosaic_Message):Option (Int×Bool) :=
  (Ap F ((lkM p0.kept p1.Key).getD []) p1.Vals).bind fun a0 =>
  some (a0.1,a0.2)
def Bb (F:Nat) (p0:(List (List api_Span))):Option (List (List api_Span)) :=
  (apd 24 ([]:List (List api_Span)) p0).bind fun l7 =>
  some l7
def B7 (F:Nat) (p0:(List api_Span)):Option (List api_Span) :=
  (apd 16 ([]:List api_Span) p0).bind fun l5 =>
  some l5
def E4 (F:Nat) (p0:mosaic_Node) (p1:mosaic_Message):Option mosaic_Node :=
  (C3 F p0 p1).bind fun a1 =>
  (Bb F ((lkM p0.kept p1.Key).getD [])).bind fun a2 =>
  (B7 F p1.Vals).bind fun a3 =>
  (G8 F a2 a1.1 ([a3])).bind fun a4 =>
  (ck (p0.count+1)).bind fun a0 =>
  some (mosaic_Node.mk p0.spec p0.radars p0.horizon (upM p0.kept p1.Key a4) a0 p0.looks)
def B4 (F:Nat) (p0:mosaic_Node) (p1:mosaic_Message):Option (Bool×Int×mosaic_Node) :=
  (C9 F p0).bind fun a1 =>
  bif a1 then (some (false,1,p0)) else ((D3 F p0 p1).bind fun a0 =>
  bif (a0 != 0) then (some (false,a0,p0)) else (bif (decide (p1.Key.Time<p0.horizon)) then (some (false,17,p0)) else ((C3 F p0 p1).bind fun a2 =>
  bif a2.2 then (some (false,0,p0)) else (bif (decide (p0.count≥256)) then (some (false,13,p0)) else ((E4 F p0 p1).bind fun a3 =>
  some (true,0,a3))))))
def A7 (p0:Int):api_Span :=
  (api_Span.mk p0 p0)
def law11_S:mosaic_Spec :=
  (mosaic_Spec.mk (api_Grid.mk (-2000) (-1000) 1000 4 2) (A7 8000000) ([(mosaic_Radar.mk (api_Site.mk (⟨#[97]⟩:ByteArray) (-1500) (-500) 100 1 3 1000 0) (api_Span.mk 0 0)),(mosaic_Radar.mk (api_Site.mk (⟨#[98]⟩:ByteArray) 1500 (-500) 100 1 3 1000 0) (api_Span.mk 5 10))]) 600)
def Gj (p0:ByteArray) (p1:Int) (a0:(List api_Span)):Option mosaic_Message :=
  some (mosaic_Message.mk (mosaic_Key.mk p0 0 p1) a0)
def Gi (p0:ByteArray) (p1:Int) (p2:Int) (k2:((List api_Span)→Int→Option mosaic_Message)) (a0:(List api_Span)) (a1:Int):Option mosaic_Message :=
  bif (decide (a1<8)) then ((apd 16 a0 ([(A7 p2)])).bind fun a2 =>
  (ck (a1+1)).bind fun a3 =>
  k2 a2 a3) else (Gj p0 p1 a0)
def F7 (p0:ByteArray) (p1:Int) (p2:Int):Nat→(List api_Span)→Int→Option mosaic_Message
  | 0,_,_=>none
  | n+1,a0,a1=>Gi p0 p1 p2 (F7 p0 p1 p2 n) a0 a1
def Gt (F:Nat) (p0:ByteArray) (p1:Int) (p2:Int):Option mosaic_Message :=
  F7 p0 p1 p2 F ([]) 0
def Cl (F:Nat) (p0:mosaic_Node) (p1:Int):Option Int :=
  (C9 F p0).bind fun a0 =>
  bif a0 then (some 1) else (bif (!(Bh p1 0 4294967296)) then (some 3) else (bif (decide (p1<p0.horizon)) then (some 17) else (some 0)))
def Bg (p0:ByteArray):Bool :=
  !(sEq p0 p0)
def Bl (p0:ByteArray) (p1:ByteArray):Int :=
  bif (Bg p0) then (bif (Bg p1) then (0) else (-1)) else (bif (Bg p1) then (1) else (bif (P0 p0 p1) then (-1) else (bif (Mv p0 p1) then (1) else (0))))
def Cz (F:Nat) (p0:Int):Option beam_slant :=
  (ck (p0*p0)).bind fun x2 =>
  (ck (262144-x2)).bind fun x3 =>
  (ck (1024*p0)).bind fun x4 =>
  (ck (p0*p0)).bind fun x5 =>
  (ck (262144+x5)).bind fun x6 =>
  some (beam_slant.mk x3 x4 x6)
def Et (F:Nat) (p0:Int) (c0_:api_Site) (c1_:beam_slant):Option Int :=
  (ck (p0*c0_.Step)).bind fun x1 =>
  (ck (x1*c1_.c)).bind fun x2 =>
  (Kj x2 c1_.d).bind fun x3 =>
  some x3
def Jq (a0:Int):Option Int :=
  some a0
def Hc (F:Nat) (p0:api_Site) (p2:Int) (y2:beam_slant) (k2:(Int→Int→Option Int)) (a0:Int) (a2:Int):Option Int :=
  (ck (a2-a0)).bind fun a3 =>
  bif (decide (a3>1)) then ((ck (a0+a2)).bind fun a4 =>
  (Kj a4 2).bind fun a1 =>
  (Et F a1 p0 y2).bind fun a6 =>
  (Et F a1 p0 y2).bind fun a7 =>
  (ck (a6*a7)).bind fun a5 =>
  bif (decide (a5≤p2)) then (k2 a1 a2) else (k2 a0 a1)) else (Jq a0)
def F4 (F:Nat) (p0:api_Site) (p2:Int) (y2:beam_slant):Nat→Int→Int→Option Int
  | 0,_,_=>none
  | n+1,a0,a1=>Hc F p0 p2 y2 (F4 F p0 p2 y2 n) a0 a1
def Ja (F:Nat) (p0:api_Site) (p1:Int) (p2:Int):Option Int :=
  (Cz F p1).bind fun y2 =>
  (Et F p0.Gates p0 y2).bind fun y4 =>
  (ck (y4*y4)).bind fun x5 =>
  bif (decide (p2≥x5)) then (some (-1)) else (F4 F p0 p2 y2 F 0 p0.Gates)
def Es (F:Nat) (p0:Int) (p1:Int):Option beam_vector :=
  (Da p1 p0).bind fun x2 =>
  (ck (2*p0)).bind fun x3 =>
  (ck (x3*x2)).bind fun x4 =>
  (ck (p0*p0)).bind fun x5 =>
  (ck (x2*x2)).bind fun x6 =>
  (ck (x5-x6)).bind fun x7 =>
  (ck (p0*p0)).bind fun x8 =>
  (ck (x2*x2)).bind fun x9 =>
  (ck (x8+x9)).bind fun a0 =>
  (Kj p1 p0).bind fun a1 =>
  bif (a1==0) then (some (beam_vector.mk x4 x7 a0)) else (bif (a1==1) then (bif (a1==0) then (some (beam_vector.mk x4 x7 a0)) else (some (beam_vector.mk x7 (IntKind.i64.wrap (0-x4)) a0))) else (bif (a1==0) then (some (beam_vector.mk x4 x7 a0)) else (bif (a1==2) then (bif (a1==0) then (some (beam_vector.mk x4 x7 a0)) else (some (beam_vector.mk (IntKind.i64.wrap (0-x4)) (IntKind.i64.wrap (0-x7)) a0))) else (bif (a1==0) then (some (beam_vector.mk x4 x7 a0)) else (bif (a1==3) then (bif (a1==0) then (some (beam_vector.mk x4 x7 a0)) else (some (beam_vector.mk (IntKind.i64.wrap (0-x7)) x4 a0))) else (bif (a1==0) then (some (beam_vector.mk x4 x7 a0)) else (none)))))))
def Er (F:Nat) (p0:beam_vector) (p1:Int) (p2:Int):Option Bool :=
  (ck (p0.y*p1)).bind fun x2 =>
  (ck (p0.x*p2)).bind fun x3 =>
  some (decide (x2≥x3))
def Hw (p0:Int) (a0:Int) (a1:Int):Option Int :=
  (ck (a0*p0)).bind fun a2 =>
  (ck (a2+a1)).bind fun a3 =>
  some a3
def Hu (F:Nat) (p0:Int) (a3:Int) (a4:Int) (a5:Int) (k3:(Int→Int→Option Int)) (a0:Int) (a1:Int):Option Int :=
  (ck (a1-a0)).bind fun a6 =>
  bif (decide (a6>1)) then ((ck (a0+a1)).bind fun a7 =>
  (Kj a7 2).bind fun a2 =>
  (Es F p0 a2).bind fun a8 =>
  (Er F a8 a3 a4).bind fun a9 =>
  bif a9 then (k3 a2 a1) else (k3 a0 a2)) else (Hw p0 a5 a0)
def Fu (F:Nat) (p0:Int) (a0:Int) (a1:Int) (a2:Int):Nat→Int→Int→Option Int
  | 0,_,_=>none
  | n+1,a3,a4=>Hu F p0 a0 a1 a2 (Fu F p0 a0 a1 a2 n) a3 a4
def Hv (F:Nat) (p0:Int) (a0:Int) (a1:Int) (a2:Int):Option Int :=
  Fu F p0 a0 a1 a2 F 0 p0
def Gx (F:Nat) (p0:Int) (k4:(Int→Int→Int→Option Int)) (a0:Int) (a1:Int) (a2:Int):Option Int :=
  bif (bif (decide (a0<0)) then true else (decide (a1≤0))) then ((ck (a2+1)).bind fun a3 =>
  k4 (IntKind.i64.wrap (0-a1)) a0 a3) else (Hv F p0 a0 a1 a2)
def Df (F:Nat) (p0:Int):Nat→Int→Int→Int→Option Int
  | 0,_,_,_=>none
  | n+1,a0,a1,a2=>Gx F p0 (Df F p0 n) a0 a1 a2
def K6 (F:Nat) (p0:Int) (p1:Int) (p2:Int):Option Int :=
  Df F p0 F p1 p2 0
def J9 (F:Nat) (p0:api_Site) (p1:Int) (p2:Int) (p3:Int):Option (Int×Int×Bool) :=
  (ck (p2-p0.X)).bind fun x2 =>
  (ck (p3-p0.Y)).bind fun x3 =>
  bif (bif (x2==0) then (x3==0) else false) then (some (0,0,true)) else ((ck (x2*x2)).bind fun x4 =>
  (ck (x3*x3)).bind fun x5 =>
  (ck (x4+x5)).bind fun x6 =>
  (Ja F p0 p1 x6).bind fun y7 =>
  bif (decide (y7<0)) then (some (0,0,false)) else ((K6 F p0.Rose x2 x3).bind fun y8 =>
  some (y8,y7,true)))
def Jo (a0:(List Int)):Option ((List Int)×Int) :=
  some (a0,0)
def Hb (a1:Int) (k2:((List Int)→Int→Option ((List Int)×Int))) (a0:(List Int)):Option ((List Int)×Int) :=
  (ck (a1+1)).bind fun a2 =>
  k2 a0 a2
def F3 (a0:(List Int)) (a2:Int) (k4:((List Int)→Int→Option ((List Int)×Int))) (a3:Int):Option ((List Int)×Int) :=
  (apd 8 a0 ([a3])).bind fun a1 =>
  (ck (a2+1)).bind fun a4 =>
  k4 a1 a4
def Ha (F:Nat) (p0:api_Site) (p1:Int) (p2:api_Grid) (a3:Int) (k2:((List Int)→Int→Option ((List Int)×Int))) (k4:((List Int)→Int→Option ((List Int)×Int))) (a1:(List Int)) (a0:Int):Option ((List Int)×Int) :=
  bif (decide (a0<p2.Wide)) then ((ck (a0*p2.Size)).bind fun a4 =>
  (ck (p2.X+a4)).bind fun a5 =>
  (Kj p2.Size 2).bind fun a6 =>
  (ck (a5+a6)).bind fun a7 =>
  (ck (a3*p2.Size)).bind fun a8 =>
  (ck (p2.Y+a8)).bind fun a9 =>
  (Kj p2.Size 2).bind fun aA =>
  (ck (a9+aA)).bind fun aB =>
  (J9 F p0 p1 a7 aB).bind fun a2 =>
  bif a2.2.2 then ((ck (a2.1*p0.Gates)).bind fun aC =>
  (ck (aC+a2.2.1)).bind fun aD =>
  F3 a1 a0 k4 aD) else (F3 a1 a0 k4 (-1))) else (Hb a3 k2 a1)
def E6 (F:Nat) (p0:api_Site) (p1:Int) (p2:api_Grid) (a0:Int) (k2:((List Int)→Int→Option ((List Int)×Int))):Nat→(List Int)→Int→Option ((List Int)×Int)
  | 0,_,_=>none
  | n+1,a1,a2=>Ha F p0 p1 p2 a0 k2 (E6 F p0 p1 p2 a0 k2 n) a1 a2
def H9 (F:Nat) (p0:api_Site) (p1:Int) (p2:api_Grid) (k2:((List Int)→Int→Option ((List Int)×Int))) (a0:(List Int)) (a1:Int):Option ((List Int)×Int) :=
  bif (decide (a1<p2.High)) then (E6 F p0 p1 p2 a1 k2 F a0 0) else (Jo a0)
def E5 (F:Nat) (p0:api_Site) (p1:Int) (p2:api_Grid):Nat→(List Int)→Int→Option ((List Int)×Int)
  | 0,_,_=>none
  | n+1,a0,a1=>H9 F p0 p1 p2 (E5 F p0 p1 p2 n) a0 a1
def Gc (F:Nat) (p0:api_Site) (p1:Int) (p2:api_Grid):Option ((List Int)×Int) :=
  (beam_CheckSite F p0).bind fun y3 =>
  bif (y3 != 0) then (some (([]:(List Int)),y3)) else (bif ((B3 p2) != 0) then (some (([]:(List Int)),(B3 p2))) else (bif (!(A4 p1 0 256)) then (some (([]:(List Int)),3)) else ((ck (p2.Wide*p2.High)).bind fun x4 =>
  (mk0 8 x4).bind fun c6 =>
  E5 F p0 p1 p2 F ([]:List Int) 0)))
def Dt (p0:api_Span):Bool :=
  bif (bif (decide (1000000≤p0.Lo)) then (decide (p0.Lo≤p0.Hi)) else false) then (decide (p0.Hi≤100000000)) else false
def Gd (F:Nat) (p0:Int) (p1:Int):Option Int :=
  (Kj p0 p1).bind fun x1 =>
  (ck (x1*p1)).bind fun x2 =>
  bif (decide (x2>p0)) then ((ck (x1-1)).bind fun x3 =>
  some x3) else (some x1)
def Jr (F:Nat) (p0:Int) (p1:Int):Option Int :=
  (Kj p0 p1).bind fun x1 =>
  (ck (x1*p1)).bind fun x2 =>
  bif (decide (x2<p0)) then ((ck (x1+1)).bind fun x3 =>
  some x3) else (some x1)
def Ef (F:Nat) (p0:api_Site) (p1:Int) (p2:Int):Option Int :=
  (Cz F p1).bind fun y2 =>
  (ck (2*p2)).bind fun x4 =>
  (ck (x4+1)).bind fun x5 =>
  (ck (x5*p0.Step)).bind fun x6 =>
  (ck (x6*y2.c)).bind fun x7 =>
  (ck (2*y2.d)).bind fun x8 =>
  (Gd F x7 x8).bind fun y9 =>
  some y9
def Eu (F:Nat) (p0:api_Site) (p1:Int) (p2:Int) (p3:Int):Option Int :=
  (Cz F p1).bind fun y2 =>
  (Ef F p0 p1 p2).bind fun y5 =>
  (ck (2*p2)).bind fun x6 =>
  (ck (x6+1)).bind fun x7 =>
  (ck (x7*p0.Step)).bind fun x8 =>
  (ck (x8*y2.s)).bind fun x9 =>
  (ck (2*y2.d)).bind fun a0 =>
  (ck (y5*y5)).bind fun a1 =>
  (ck (2*p3)).bind fun a2 =>
  (Gd F x9 a0).bind fun a5 =>
  (ck (p0.Z+a5)).bind fun a3 =>
  (Gd F a1 a2).bind fun a6 =>
  (ck (a3+a6)).bind fun a4 =>
  some a4
def Eg (F:Nat) (p0:api_Site) (p1:Int) (p2:Int):Option Int :=
  (Cz F p1).bind fun y2 =>
  (ck (2*p2)).bind fun x4 =>
  (ck (x4+1)).bind fun x5 =>
  (ck (x5*p0.Step)).bind fun x6 =>
  (ck (x6*y2.c)).bind fun x7 =>
  (ck (2*y2.d)).bind fun x8 =>
  (Jr F x7 x8).bind fun y9 =>
  some y9
def Ev (F:Nat) (p0:api_Site) (p1:Int) (p2:Int) (p3:Int):Option Int :=
  (Cz F p1).bind fun y2 =>
  (Eg F p0 p1 p2).bind fun y5 =>
  (ck (2*p2)).bind fun x6 =>
  (ck (x6+1)).bind fun x7 =>
  (ck (x7*p0.Step)).bind fun x8 =>
  (ck (x8*y2.s)).bind fun x9 =>
  (ck (2*y2.d)).bind fun a0 =>
  (ck (y5*y5)).bind fun a1 =>
  (ck (2*p3)).bind fun a2 =>
  (Jr F x9 a0).bind fun a5 =>
  (ck (p0.Z+a5)).bind fun a3 =>
  (Jr F a1 a2).bind fun a6 =>
  (ck (a3+a6)).bind fun a4 =>
  some a4
def J7 (F:Nat) (p0:api_Site) (p1:Int) (p2:api_Span) (p3:Int):Option (api_Span×Int) :=
  (beam_CheckSite F p0).bind fun y4 =>
  bif (y4 != 0) then (some ((api_Span.mk 0 0),y4)) else ((gd (((bif (!(A4 p1 0 256)) then true else (!(Dt p2)))==false&&true)) (ck (p0.Gates-1)) 0).bind fun x5 =>
  bif (bif (bif (!(A4 p1 0 256)) then true else (!(Dt p2))) then true else (!(A4 p3 0 x5))) then (some ((api_Span.mk 0 0),3)) else ((ck (p1-p0.Width)).bind fun x6 =>
  (ck (p1+p0.Width)).bind fun x7 =>
  (Eu F p0 x6 p3 p2.Hi).bind fun y9 =>
  (Ev F p0 x7 p3 p2.Lo).bind fun a0 =>
  some ((api_Span.mk y9 a0),0)))
def Dr (p0:mosaic_Node) (p1:mosaic_Key) (a0:(List api_Span)):Option ((List api_Span)×(List (mosaic_where×(List api_Span)))) :=
  some (a0,(upM p0.looks (mosaic_where.mk p1.Name p1.Tilt) a0))
def C8 (a0:(List api_Span)) (a2:Int) (k2:((List api_Span)→Int→Option ((List api_Span)×(List (mosaic_where×(List api_Span)))))) (a3:Int) (a4:Int):Option ((List api_Span)×(List (mosaic_where×(List api_Span)))) :=
  (apd 16 a0 ([(api_Span.mk a3 a4)])).bind fun a1 =>
  (ck (a2+1)).bind fun a5 =>
  k2 a1 a5
def Dq (F:Nat) (p0:mosaic_Node) (p1:mosaic_Key) (a4:((List Int)×Int)) (k2:((List api_Span)→Int→Option ((List api_Span)×(List (mosaic_where×(List api_Span)))))) (a1:(List api_Span)) (a0:Int):Option ((List api_Span)×(List (mosaic_where×(List api_Span)))) :=
  bif (decide (a0<((a4.1.length:Nat):Int))) then ((Bz a4.1 a0).bind fun a2 =>
  bif (decide (a2≥0)) then ((Da a2 ((((lkM p0.radars p1.Name).getD (mosaic_Radar.mk (api_Site.mk ByteArray.empty 0 0 0 0 0 0 0) (api_Span.mk 0 0))).Site).Gates)).bind fun a5 =>
  (J7 F (api_Site.mk ((((lkM p0.radars p1.Name).getD (mosaic_Radar.mk (api_Site.mk ByteArray.empty 0 0 0 0 0 0 0) (api_Span.mk 0 0))).Site).Name) ((((lkM p0.radars p1.Name).getD (mosaic_Radar.mk (api_Site.mk ByteArray.empty 0 0 0 0 0 0 0) (api_Span.mk 0 0))).Site).X) ((((lkM p0.radars p1.Name).getD (mosaic_Radar.mk (api_Site.mk ByteArray.empty 0 0 0 0 0 0 0) (api_Span.mk 0 0))).Site).Y) ((((lkM p0.radars p1.Name).getD (mosaic_Radar.mk (api_Site.mk ByteArray.empty 0 0 0 0 0 0 0) (api_Span.mk 0 0))).Site).Z) ((((lkM p0.radars p1.Name).getD (mosaic_Radar.mk (api_Site.mk ByteArray.empty 0 0 0 0 0 0 0) (api_Span.mk 0 0))).Site).Rose) ((((lkM p0.radars p1.Name).getD (mosaic_Radar.mk (api_Site.mk ByteArray.empty 0 0 0 0 0 0 0) (api_Span.mk 0 0))).Site).Gates) ((((lkM p0.radars p1.Name).getD (mosaic_Radar.mk (api_Site.mk ByteArray.empty 0 0 0 0 0 0 0) (api_Span.mk 0 0))).Site).Step) ((((lkM p0.radars p1.Name).getD (mosaic_Radar.mk (api_Site.mk ByteArray.empty 0 0 0 0 0 0 0) (api_Span.mk 0 0))).Site).Width)) p1.Tilt p0.spec.Earth a5).bind fun a3 =>
  C8 a1 a0 k2 a3.1.Lo a3.1.Hi) else (C8 a1 a0 k2 1 0)) else (Dr p0 p1 a1)
def Bo (F:Nat) (p0:mosaic_Node) (p1:mosaic_Key) (a0:((List Int)×Int)):Nat→(List api_Span)→Int→Option ((List api_Span)×(List (mosaic_where×(List api_Span))))
  | 0,_,_=>none
  | n+1,a1,a2=>Dq F p0 p1 a0 (Bo F p0 p1 a0 n) a1 a2
def Dp (F:Nat) (p0:mosaic_Node) (p1:mosaic_Key):Option ((List api_Span)×(List (mosaic_where×(List api_Span)))) :=
  bif ((lkM p0.looks (mosaic_where.mk p1.Name p1.Tilt)).isSome) then (some (((lkM p0.looks (mosaic_where.mk p1.Name p1.Tilt)).getD []),p0.looks)) else ((Gc F (api_Site.mk ((((lkM p0.radars p1.Name).getD (mosaic_Radar.mk (api_Site.mk ByteArray.empty 0 0 0 0 0 0 0) (api_Span.mk 0 0))).Site).Name) ((((lkM p0.radars p1.Name).getD (mosaic_Radar.mk (api_Site.mk ByteArray.empty 0 0 0 0 0 0 0) (api_Span.mk 0 0))).Site).X) ((((lkM p0.radars p1.Name).getD (mosaic_Radar.mk (api_Site.mk ByteArray.empty 0 0 0 0 0 0 0) (api_Span.mk 0 0))).Site).Y) ((((lkM p0.radars p1.Name).getD (mosaic_Radar.mk (api_Site.mk ByteArray.empty 0 0 0 0 0 0 0) (api_Span.mk 0 0))).Site).Z) ((((lkM p0.radars p1.Name).getD (mosaic_Radar.mk (api_Site.mk ByteArray.empty 0 0 0 0 0 0 0) (api_Span.mk 0 0))).Site).Rose) ((((lkM p0.radars p1.Name).getD (mosaic_Radar.mk (api_Site.mk ByteArray.empty 0 0 0 0 0 0 0) (api_Span.mk 0 0))).Site).Gates) ((((lkM p0.radars p1.Name).getD (mosaic_Radar.mk (api_Site.mk ByteArray.empty 0 0 0 0 0 0 0) (api_Span.mk 0 0))).Site).Step) ((((lkM p0.radars p1.Name).getD (mosaic_Radar.mk (api_Site.mk ByteArray.empty 0 0 0 0 0 0 0) (api_Span.mk 0 0))).Site).Width)) p1.Tilt p0.spec.Grid).bind fun a0 =>
  Bo F p0 p1 a0 F ([]) 0)
def Ec (a0:(List (mosaic_where×(List api_Span)))) (a1:(List mosaic_used)):Option ((List mosaic_used)×(List (mosaic_where×(List api_Span)))) :=
  some (a1,a0)
def Cn (a2:Int) (k3:((List (mosaic_where×(List api_Span)))→Int→(List mosaic_used)→Option ((List mosaic_used)×(List (mosaic_where×(List api_Span)))))) (a0:(List (mosaic_where×(List api_Span)))) (a1:(List mosaic_used)):Option ((List mosaic_used)×(List (mosaic_where×(List api_Span)))) :=
  (ck (a2+1)).bind fun a3 =>
  k3 a0 a3 a1
def Ea (F:Nat) (p0:mosaic_Node) (a4:(List (mosaic_where×mosaic_Key))) (a5:(List mosaic_Key)) (k3:((List (mosaic_where×(List api_Span)))→Int→(List mosaic_used)→Option ((List mosaic_used)×(List (mosaic_where×(List api_Span)))))) (a2:(List (mosaic_where×(List api_Span)))) (a1:Int) (a3:(List mosaic_used)):Option ((List mosaic_used)×(List (mosaic_where×(List api_Span)))) :=
  bif (decide (a1<((a5.length:Nat):Int))) then ((Bz a5 a1).bind fun a0 =>
  bif (((((lkM a4 (mosaic_where.mk a0.Name a0.Tilt)).getD (mosaic_Key.mk ByteArray.empty 0 0)).Name)==a0.Name)&&(((((lkM a4 (mosaic_where.mk a0.Name a0.Tilt)).getD (mosaic_Key.mk ByteArray.empty 0 0)).Tilt:Int)==a0.Tilt)&&(((((lkM a4 (mosaic_where.mk a0.Name a0.Tilt)).getD (mosaic_Key.mk ByteArray.empty 0 0)).Time:Int)==a0.Time)&&true))) then ((Bz ((lkM p0.kept a0).getD []) 0).bind fun a8 =>
  (Dp F (mosaic_Node.mk p0.spec p0.radars p0.horizon p0.kept p0.count a2) a0).bind fun a6 =>
  (apd 80 a3 ([(mosaic_used.mk a0 a8 a6.1)])).bind fun a7 =>
  Cn a1 k3 a6.2 a7) else (Cn a1 k3 a2 a3)) else (Ec a2 a3)
def C1 (F:Nat) (p0:mosaic_Node) (a0:(List (mosaic_where×mosaic_Key))) (a1:(List mosaic_Key)):Nat→(List (mosaic_where×(List api_Span)))→Int→(List mosaic_used)→Option ((List mosaic_used)×(List (mosaic_where×(List api_Span))))
  | 0,_,_,_=>none
  | n+1,a2,a4,a3=>Ea F p0 a0 a1 (C1 F p0 a0 a1 n) a2 a4 a3
def Cm (F:Nat) (p0:mosaic_Node) (a0:(List (mosaic_where×mosaic_Key))):Option ((List mosaic_used)×(List (mosaic_where×(List api_Span)))) :=
  (Fw F p0).bind fun a1 =>
  C1 F p0 a0 a1 F p0.looks 0 ([])
def Co (a1:Int) (k5:((List (mosaic_where×mosaic_Key))→Int→Option ((List mosaic_used)×(List (mosaic_where×(List api_Span)))))) (a0:(List (mosaic_where×mosaic_Key))):Option ((List mosaic_used)×(List (mosaic_where×(List api_Span)))) :=
  (ck (a1+1)).bind fun a2 =>
  k5 a0 a2
def Eb (F:Nat) (p0:mosaic_Node) (p1:Int) (a4:(List mosaic_Key)) (k5:((List (mosaic_where×mosaic_Key))→Int→Option ((List mosaic_used)×(List (mosaic_where×(List api_Span)))))) (a2:(List (mosaic_where×mosaic_Key))) (a1:Int):Option ((List mosaic_used)×(List (mosaic_where×(List api_Span)))) :=
  bif (decide (a1<((a4.length:Nat):Int))) then ((Bz a4 a1).bind fun a0 =>
  (gd (((((((lkM p0.kept a0).getD []).length:Nat):Int)==1)==true&&true)) (ck (a0.Time+((((lkM p0.radars a0.Name).getD (mosaic_Radar.mk (api_Site.mk ByteArray.empty 0 0 0 0 0 0 0) (api_Span.mk 0 0))).Offset).Hi))) 0).bind fun a3 =>
  (gd (((bif (((((lkM p0.kept a0).getD []).length:Nat):Int)==1) then (decide (a3≤p1)) else false)==true&&true)) (ck (p1-a0.Time)) 0).bind fun a5 =>
  (gd (((bif (((((lkM p0.kept a0).getD []).length:Nat):Int)==1) then (decide (a3≤p1)) else false)==true&&true)) (ck (a5-((((lkM p0.radars a0.Name).getD (mosaic_Radar.mk (api_Site.mk ByteArray.empty 0 0 0 0 0 0 0) (api_Span.mk 0 0))).Offset).Lo))) 0).bind fun a6 =>
  bif (bif (bif (((((lkM p0.kept a0).getD []).length:Nat):Int)==1) then (decide (a3≤p1)) else false) then (decide (a6≤p0.spec.Age)) else false) then (Co a1 k5 (upM a2 (mosaic_where.mk a0.Name a0.Tilt) a0)) else (Co a1 k5 a2)) else (Cm F p0 a2)
def C2 (F:Nat) (p0:mosaic_Node) (p1:Int) (a0:(List mosaic_Key)):Nat→(List (mosaic_where×mosaic_Key))→Int→Option ((List mosaic_used)×(List (mosaic_where×(List api_Span))))
  | 0,_,_=>none
  | n+1,a1,a2=>Eb F p0 p1 a0 (C2 F p0 p1 a0 n) a1 a2
def De (F:Nat) (p0:mosaic_Node) (p1:Int):Option ((List mosaic_used)×(List (mosaic_where×(List api_Span)))) :=
  (Fw F p0).bind fun a0 =>
  C2 F p0 p1 a0 F ([]:List (mosaic_where×mosaic_Key)) 0
def Ai (p0:api_Span):Bool :=
  decide (p0.Lo≤p0.Hi)
def Fe (a1:((List mosaic_used)×(List (mosaic_where×(List api_Span))))) (a0:(List mosaic_Pixel)):Option ((List mosaic_Pixel)×Int×(List (mosaic_where×(List api_Span)))) :=
  some (a0,0,a1.2)
def Ff (a1:Int) (k2:(Int→(List mosaic_Pixel)→Option ((List mosaic_Pixel)×Int×(List (mosaic_where×(List api_Span)))))) (a0:(List mosaic_Pixel)):Option ((List mosaic_Pixel)×Int×(List (mosaic_where×(List api_Span)))) :=
  (ck (a1+1)).bind fun a2 =>
  k2 a2 a0
def Dv (a3:Int) (a0:(List mosaic_Pixel)) (k2:(Int→(List mosaic_Pixel)→Option ((List mosaic_Pixel)×Int×(List (mosaic_where×(List api_Span)))))) (a4:Int) (a5:Int) (a2:ByteArray) (a6:Int) (a7:Int):Option ((List mosaic_Pixel)×Int×(List (mosaic_where×(List api_Span)))) :=
  (apd 48 a0 ([(mosaic_Pixel.mk (api_Span.mk a4 a5) (mosaic_Key.mk a2 a6 a7))])).bind fun a1 =>
  Ff a3 k2 a1
def Fg (a5:((List mosaic_used)×(List (mosaic_where×(List api_Span))))) (a1:Int) (a2:(List mosaic_Pixel)) (k2:(Int→(List mosaic_Pixel)→Option ((List mosaic_Pixel)×Int×(List (mosaic_where×(List api_Span)))))) (a4:Int):Option ((List mosaic_Pixel)×Int×(List (mosaic_where×(List api_Span)))) :=
  bif (decide (a4<0)) then (Dv a1 a2 k2 0 1000000 ByteArray.empty 0 0) else ((Bz a5.1 a4).bind fun a0 =>
  (Bz a0.vals a1).bind fun a3 =>
  Dv a1 a2 k2 a3.Lo a3.Hi a0.Key.Name a0.Key.Tilt a0.Key.Time)
def Cf (a0:Int) (k6:(Int→Int→Option ((List mosaic_Pixel)×Int×(List (mosaic_where×(List api_Span)))))) (a1:Int):Option ((List mosaic_Pixel)×Int×(List (mosaic_where×(List api_Span)))) :=
  (ck (a0+1)).bind fun a2 =>
  k6 a1 a2
def Fc (F:Nat) (a5:((List mosaic_used)×(List (mosaic_where×(List api_Span))))) (a2:Int) (a6:(List mosaic_Pixel)) (k2:(Int→(List mosaic_Pixel)→Option ((List mosaic_Pixel)×Int×(List (mosaic_where×(List api_Span)))))) (k6:(Int→Int→Option ((List mosaic_Pixel)×Int×(List (mosaic_where×(List api_Span)))))) (a4:Int) (a0:Int):Option ((List mosaic_Pixel)×Int×(List (mosaic_where×(List api_Span)))) :=
  bif (decide (a0<((a5.1.length:Nat):Int))) then ((Bz a5.1 a0).bind fun a1 =>
  (Bz a1.bands a2).bind fun a7 =>
  bif (!(Ai a7)) then (Cf a0 k6 a4) else (bif (decide (a4<0)) then (Cf a0 k6 a0) else ((Bz a5.1 a4).bind fun a3 =>
  (Bz a1.bands a2).bind fun a8 =>
  (Bz a3.bands a2).bind fun a9 =>
  (Bz a1.bands a2).bind fun aA =>
  (Bz a3.bands a2).bind fun aB =>
  (Hh F ([(A9 a8.Hi a9.Hi),(A9 aA.Lo aB.Lo),(A9 a3.Key.Time a1.Key.Time),(Bl a1.Key.Name a3.Key.Name),(A9 a1.Key.Tilt a3.Key.Tilt)])).bind fun aC =>
  bif (decide (aC<0)) then (Cf a0 k6 a0) else (Cf a0 k6 a4)))) else (Fg a5 a2 a6 k2 a4)
def Dx (F:Nat) (a2:((List mosaic_used)×(List (mosaic_where×(List api_Span))))) (a1:Int) (a0:(List mosaic_Pixel)) (k2:(Int→(List mosaic_Pixel)→Option ((List mosaic_Pixel)×Int×(List (mosaic_where×(List api_Span)))))):Nat→Int→Int→Option ((List mosaic_Pixel)×Int×(List (mosaic_where×(List api_Span))))
  | 0,_,_=>none
  | n+1,a3,a4=>Fc F a2 a1 a0 k2 (Dx F a2 a1 a0 k2 n) a3 a4
def Fb (F:Nat) (a2:((List mosaic_used)×(List (mosaic_where×(List api_Span))))) (a3:Int) (k2:(Int→(List mosaic_Pixel)→Option ((List mosaic_Pixel)×Int×(List (mosaic_where×(List api_Span)))))) (a1:Int) (a0:(List mosaic_Pixel)):Option ((List mosaic_Pixel)×Int×(List (mosaic_where×(List api_Span)))) :=
  bif (decide (a1<a3)) then (Dx F a2 a1 a0 k2 F (-1) 0) else (Fe a2 a0)
def Dw (F:Nat) (a1:((List mosaic_used)×(List (mosaic_where×(List api_Span))))) (a0:Int):Nat→Int→(List mosaic_Pixel)→Option ((List mosaic_Pixel)×Int×(List (mosaic_where×(List api_Span))))
  | 0,_,_=>none
  | n+1,a3,a2=>Fb F a1 a0 (Dw F a1 a0 n) a3 a2
def Gm (F:Nat) (p0:mosaic_Node) (p1:Int):Option ((List mosaic_Pixel)×Int×(List (mosaic_where×(List api_Span)))) :=
  (Cl F p0 p1).bind fun a0 =>
  bif (a0 != 0) then (some (([]:(List mosaic_Pixel)),a0,p0.looks)) else ((De F p0 p1).bind fun a2 =>
  (ck (p0.spec.Grid.Wide*p0.spec.Grid.High)).bind fun a1 =>
  Dw F a2 a1 F 0 ([]))
def H0 (F:Nat):Option Bool :=
  (Ex F (mosaic_Spec.mk (api_Grid.mk law11_S.Grid.X law11_S.Grid.Y law11_S.Grid.Size law11_S.Grid.Wide law11_S.Grid.High) (api_Span.mk law11_S.Earth.Lo law11_S.Earth.Hi) law11_S.Radars law11_S.Age)).bind fun y7 =>
  exc y7 (fun a7=>bif (a7 != 0) then (some false) else (none)) (fun a2=>bif (a2.2 != 0) then (some false) else ((Gt F (⟨#[97]⟩:ByteArray) 100 5).bind fun a8 =>
  (B4 F (mosaic_Node.mk (mosaic_Spec.mk (api_Grid.mk a2.1.spec.Grid.X a2.1.spec.Grid.Y a2.1.spec.Grid.Size a2.1.spec.Grid.Wide a2.1.spec.Grid.High) (api_Span.mk a2.1.spec.Earth.Lo a2.1.spec.Earth.Hi) a2.1.spec.Radars a2.1.spec.Age) a2.1.radars a2.1.horizon a2.1.kept a2.1.count a2.1.looks) a8).bind fun a0 =>
  (Gt F (⟨#[98]⟩:ByteArray) 100 7).bind fun a9 =>
  (B4 F (mosaic_Node.mk (mosaic_Spec.mk (api_Grid.mk a0.2.2.spec.Grid.X a0.2.2.spec.Grid.Y a0.2.2.spec.Grid.Size a0.2.2.spec.Grid.Wide a0.2.2.spec.Grid.High) (api_Span.mk a0.2.2.spec.Earth.Lo a0.2.2.spec.Earth.Hi) a0.2.2.spec.Radars a0.2.2.spec.Age) a0.2.2.radars a0.2.2.horizon a0.2.2.kept a0.2.2.count a0.2.2.looks) a9).bind fun a1 =>
  (Gm F (mosaic_Node.mk (mosaic_Spec.mk (api_Grid.mk a1.2.2.spec.Grid.X a1.2.2.spec.Grid.Y a1.2.2.spec.Grid.Size a1.2.2.spec.Grid.Wide a1.2.2.spec.Grid.High) (api_Span.mk a1.2.2.spec.Earth.Lo a1.2.2.spec.Earth.Hi) a1.2.2.spec.Radars a1.2.2.spec.Age) a1.2.2.radars a1.2.2.horizon a1.2.2.kept a1.2.2.count a1.2.2.looks) 110).bind fun a3 =>
  (gd (((bif (bif (bif (bif (bif a0.1 then a1.1 else false) then (a0.2.1==0) else false) then (a1.2.1==0) else false) then (a3.2.1==0) else false) then (((a3.1.length:Nat):Int)==8) else false)==true&&true)) (Bz a3.1 0) default).bind fun a4 =>
  (gd (((bif (bif (bif (bif (bif (bif a0.1 then a1.1 else false) then (a0.2.1==0) else false) then (a1.2.1==0) else false) then (a3.2.1==0) else false) then (((a3.1.length:Nat):Int)==8) else false) then (((a4.Value_.Lo:Int)==(A7 5).Lo)&&(((a4.Value_.Hi:Int)==(A7 5).Hi)&&true)) else false)==true&&true)) (Bz a3.1 2) default).bind fun a5 =>
  (gd (((bif (bif (bif (bif (bif (bif (bif a0.1 then a1.1 else false) then (a0.2.1==0) else false) then (a1.2.1==0) else false) then (a3.2.1==0) else false) then (((a3.1.length:Nat):Int)==8) else false) then (((a4.Value_.Lo:Int)==(A7 5).Lo)&&(((a4.Value_.Hi:Int)==(A7 5).Hi)&&true)) else false) then ((a5.Key.Name==(⟨#[97]⟩:ByteArray))&&(((a5.Key.Tilt:Int)==0)&&(((a5.Key.Time:Int)==100)&&true))) else false)==true&&true)) (Bz a3.1 3) default).bind fun a6 =>
  some (bif (bif (bif (bif (bif (bif (bif (bif a0.1 then a1.1 else false) then (a0.2.1==0) else false) then (a1.2.1==0) else false) then (a3.2.1==0) else false) then (((a3.1.length:Nat):Int)==8) else false) then (((a4.Value_.Lo:Int)==(A7 5).Lo)&&(((a4.Value_.Hi:Int)==(A7 5).Hi)&&true)) else false) then ((a5.Key.Name==(⟨#[97]⟩:ByteArray))&&(((a5.Key.Tilt:Int)==0)&&(((a5.Key.Time:Int)==100)&&true))) else false) then ((((a6.Value_.Lo:Int)==(A7 7).Lo)&&(((a6.Value_.Hi:Int)==(A7 7).Hi)&&true))&&(((a6.Key.Name==(⟨#[98]⟩:ByteArray))&&(((a6.Key.Tilt:Int)==0)&&(((a6.Key.Time:Int)==100)&&true)))&&true)) else false)))
def G4 (x6:Int) (x9:Int) (a1:Int) (a0:(List mosaic_Radar)):Option mosaic_Spec :=
  some (mosaic_Spec.mk (api_Grid.mk (-2000) (-2000) 1000 x6 x9) (api_Span.mk 8000000 9000000) a0 a1)
def Do (p0:law11_Net) (x6:Int) (x9:Int) (aB:Int) (k2:((List mosaic_Radar)→Int→Option mosaic_Spec)) (a1:(List mosaic_Radar)) (a0:Int):Option mosaic_Spec :=
  (ck p0.Count).bind fun aC =>
  (Da aC 3).bind fun aD =>
  bif (decide (a0≤aD)) then (bif (a0==0) then ((ck p0.Stations.1.Lo).bind fun aE =>
  (Da aE 601).bind fun aF =>
  (ck (aF-300)).bind fun a2 =>
  (Bz ([(⟨#[97]⟩:ByteArray),(⟨#[98]⟩:ByteArray),(⟨#[99]⟩:ByteArray)]) a0).bind fun a8 =>
  (ck p0.Stations.1.X).bind fun aG =>
  (Da aG 4000).bind fun aH =>
  (ck p0.Stations.1.Y).bind fun aI =>
  (Da aI 4000).bind fun aJ =>
  (ck p0.Stations.1.Z).bind fun aK =>
  (Da aK 1000).bind fun aL =>
  (ck p0.Stations.1.Rose).bind fun aM =>
  (Da aM 3).bind fun aN =>
  (ck (1+aN)).bind fun aO =>
  (ck p0.Stations.1.Gates).bind fun aP =>
  (Da aP 5).bind fun aQ =>
  (ck (1+aQ)).bind fun aR =>
  (ck p0.Stations.1.Width).bind fun aS =>
  (Da aS 3).bind fun aT =>
  (ck p0.Stations.1.Hi).bind fun aU =>
  (Da aU 300).bind fun aV =>
  (ck (a2+aV)).bind fun aW =>
  (apd 88 a1 ([(mosaic_Radar.mk (api_Site.mk a8 aH aJ aL aO aR 1000 aT) (api_Span.mk a2 aW))])).bind fun a5 =>
  (ck (a0+1)).bind fun aX =>
  k2 a5 aX) else (bif (a0==1) then ((ck p0.Stations.2.1.Lo).bind fun aY =>
  (Da aY 601).bind fun aZ =>
  (ck (aZ-300)).bind fun a3 =>
  (Bz ([(⟨#[97]⟩:ByteArray),(⟨#[98]⟩:ByteArray),(⟨#[99]⟩:ByteArray)]) a0).bind fun a9 =>
  (ck p0.Stations.2.1.X).bind fun b0 =>
  (Da b0 4000).bind fun b1 =>
  (ck p0.Stations.2.1.Y).bind fun b2 =>
  (Da b2 4000).bind fun b3 =>
  (ck p0.Stations.2.1.Z).bind fun b4 =>
  (Da b4 1000).bind fun b5 =>
  (ck p0.Stations.2.1.Rose).bind fun b6 =>
  (Da b6 3).bind fun b7 =>
  (ck (1+b7)).bind fun b8 =>
  (ck p0.Stations.2.1.Gates).bind fun b9 =>
  (Da b9 5).bind fun bA =>
  (ck (1+bA)).bind fun bB =>
  (ck p0.Stations.2.1.Width).bind fun bC =>
  (Da bC 3).bind fun bD =>
  (ck p0.Stations.2.1.Hi).bind fun bE =>
  (Da bE 300).bind fun bF =>
  (ck (a3+bF)).bind fun bG =>
  (apd 88 a1 ([(mosaic_Radar.mk (api_Site.mk a9 b1 b3 b5 b8 bB 1000 bD) (api_Span.mk a3 bG))])).bind fun a6 =>
  (ck (a0+1)).bind fun bH =>
  k2 a6 bH) else (bif (a0==2) then ((ck p0.Stations.2.2.Lo).bind fun bI =>
  (Da bI 601).bind fun bJ =>
  (ck (bJ-300)).bind fun a4 =>
  (Bz ([(⟨#[97]⟩:ByteArray),(⟨#[98]⟩:ByteArray),(⟨#[99]⟩:ByteArray)]) a0).bind fun aA =>
  (ck p0.Stations.2.2.X).bind fun bK =>
  (Da bK 4000).bind fun bL =>
  (ck p0.Stations.2.2.Y).bind fun bM =>
  (Da bM 4000).bind fun bN =>
  (ck p0.Stations.2.2.Z).bind fun bO =>
  (Da bO 1000).bind fun bP =>
  (ck p0.Stations.2.2.Rose).bind fun bQ =>
  (Da bQ 3).bind fun bR =>
  (ck (1+bR)).bind fun bS =>
  (ck p0.Stations.2.2.Gates).bind fun bT =>
  (Da bT 5).bind fun bU =>
  (ck (1+bU)).bind fun bV =>
  (ck p0.Stations.2.2.Width).bind fun bW =>
  (Da bW 3).bind fun bX =>
  (ck p0.Stations.2.2.Hi).bind fun bY =>
  (Da bY 300).bind fun bZ =>
  (ck (a4+bZ)).bind fun c0 =>
  (apd 88 a1 ([(mosaic_Radar.mk (api_Site.mk aA bL bN bP bS bV 1000 bX) (api_Span.mk a4 c0))])).bind fun a7 =>
  (ck (a0+1)).bind fun c1 =>
  k2 a7 c1) else (none)))) else (G4 x6 x9 aB a1)
def Bc (p0:law11_Net) (x6:Int) (x9:Int) (a0:Int):Nat→(List mosaic_Radar)→Int→Option mosaic_Spec
  | 0,_,_=>none
  | n+1,a1,a2=>Do p0 x6 x9 a0 (Bc p0 x6 x9 a0 n) a1 a2
def Dz (F:Nat) (p0:law11_Net):Option mosaic_Spec :=
  (ck p0.Wide).bind fun x4 =>
  (Da x4 4).bind fun x5 =>
  (ck (1+x5)).bind fun x6 =>
  (ck p0.High).bind fun x7 =>
  (Da x7 4).bind fun x8 =>
  (ck (1+x8)).bind fun x9 =>
  (ck p0.Age).bind fun a0 =>
  (Da a0 2000).bind fun a1 =>
  (ck (1+a1)).bind fun a2 =>
  Bc p0 x6 x9 a2 F ([]) 0
def E9 (a1:mosaic_Radar) (a2:Int) (a3:Int) (a0:(List api_Span)):Option mosaic_Message :=
  some (mosaic_Message.mk (mosaic_Key.mk a1.Site.Name a2 a3) a0)
def Ck (p0:law11_Post) (a1:(List api_Span)) (a3:Int) (k2:((List api_Span)→Int→Option mosaic_Message)) (a0:Int):Option mosaic_Message :=
  (ck p0.Wide).bind fun a4 =>
  (ck (a0+a4)).bind fun a5 =>
  (apd 16 a1 ([(api_Span.mk a0 a5)])).bind fun a2 =>
  (ck (a3+1)).bind fun a6 =>
  k2 a2 a6
def E8 (p0:law11_Post) (p1:mosaic_Spec) (a2:mosaic_Radar) (a5:Int) (a8:Int) (k2:((List api_Span)→Int→Option mosaic_Message)) (a1:(List api_Span)) (a0:Int):Option mosaic_Message :=
  (ck (p1.Grid.Wide*p1.Grid.High)).bind fun a4 =>
  bif (decide (a0<a4)) then (bif (decide (((p0.Vals.length:Nat):Int)>0)) then ((Da a0 ((p0.Vals.length:Nat):Int)).bind fun a6 =>
  (Bz p0.Vals a6).bind fun a3 =>
  (ck a3).bind fun a7 =>
  Ck p0 a1 a0 k2 a7) else (Ck p0 a1 a0 k2 0)) else (E9 a2 a5 a8 a1)
def C0 (p0:law11_Post) (p1:mosaic_Spec) (a0:mosaic_Radar) (a1:Int) (a2:Int):Nat→(List api_Span)→Int→Option mosaic_Message
  | 0,_,_=>none
  | n+1,a3,a4=>E8 p0 p1 a0 a1 a2 (C0 p0 p1 a0 a1 a2 n) a3 a4
def Ei (F:Nat) (p0:law11_Post) (p1:mosaic_Spec):Option mosaic_Message :=
  (ck p0.Radar).bind fun a1 =>
  (Da a1 ((p1.Radars.length:Nat):Int)).bind fun a2 =>
  (Bz p1.Radars a2).bind fun a0 =>
  (ck p0.Tilt).bind fun a3 =>
  (Da a3 4).bind fun a4 =>
  (ck p0.Time).bind fun a5 =>
  (Da a5 2000).bind fun a6 =>
  C0 p0 p1 a0 a4 a6 F ([]) 0
def At (p0:api_Span) (p1:api_Span):Bool :=
  bif (decide (p0.Lo>p1.Hi)) then true else (decide (p1.Lo>p0.Hi))
def Cx (a1:((List mosaic_used)×(List (mosaic_where×(List api_Span))))) (a0:(List mosaic_Clash)):Option ((List mosaic_Clash)×Int×(List (mosaic_where×(List api_Span)))) :=
  some (a0,0,a1.2)
def Cy (a1:Int) (k2:(Int→(List mosaic_Clash)→Option ((List mosaic_Clash)×Int×(List (mosaic_where×(List api_Span)))))) (a0:(List mosaic_Clash)):Option ((List mosaic_Clash)×Int×(List (mosaic_where×(List api_Span)))) :=
  (ck (a1+1)).bind fun a2 =>
  k2 a2 a0
def Bj (a1:Int) (k4:(Int→(List mosaic_Clash)→Option ((List mosaic_Clash)×Int×(List (mosaic_where×(List api_Span)))))) (a0:(List mosaic_Clash)):Option ((List mosaic_Clash)×Int×(List (mosaic_where×(List api_Span)))) :=
  (ck (a1+1)).bind fun a2 =>
  k4 a2 a0
def Ba (a1:Int) (k6:(Int→(List mosaic_Clash)→Option ((List mosaic_Clash)×Int×(List (mosaic_where×(List api_Span)))))) (a0:(List mosaic_Clash)):Option ((List mosaic_Clash)×Int×(List (mosaic_where×(List api_Span)))) :=
  (ck (a1+1)).bind fun a2 =>
  k6 a2 a0
def Cw (a2:Int) (aC:Int) (k4:(Int→(List mosaic_Clash)→Option ((List mosaic_Clash)×Int×(List (mosaic_where×(List api_Span)))))) (a1:mosaic_used) (a8:(List mosaic_used)) (k6:(Int→(List mosaic_Clash)→Option ((List mosaic_Clash)×Int×(List (mosaic_where×(List api_Span)))))) (a4:Int) (a5:(List mosaic_Clash)):Option ((List mosaic_Clash)×Int×(List (mosaic_where×(List api_Span)))) :=
  bif (decide (a4<((a8.length:Nat):Int))) then ((Bz a8 a4).bind fun a0 =>
  (gd (((sEq a1.Key.Name a0.Key.Name)==false&&true)) (Bz a0.bands a2) default).bind fun a3 =>
  (gd (((bif (sEq a1.Key.Name a0.Key.Name) then true else (!(Ai a3)))==false&&true)) (Bz a1.bands a2) default).bind fun a6 =>
  (gd (((bif (sEq a1.Key.Name a0.Key.Name) then true else (!(Ai a3)))==false&&true)) (Bz a0.bands a2) default).bind fun a7 =>
  (gd (((bif (bif (sEq a1.Key.Name a0.Key.Name) then true else (!(Ai a3))) then true else (At a6 a7))==false&&true)) (Bz a1.vals a2) default).bind fun aA =>
  (gd (((bif (bif (sEq a1.Key.Name a0.Key.Name) then true else (!(Ai a3))) then true else (At a6 a7))==false&&true)) (Bz a0.vals a2) default).bind fun aB =>
  bif (bif (bif (bif (sEq a1.Key.Name a0.Key.Name) then true else (!(Ai a3))) then true else (At a6 a7)) then true else (!(At aA aB))) then (Ba a4 k6 a5) else ((apd 72 a5 ([(mosaic_Clash.mk a2 a1.Key a0.Key)])).bind fun a9 =>
  Ba a4 k6 a9)) else (Bj aC k4 a5)
def B1 (a2:Int) (a3:Int) (k4:(Int→(List mosaic_Clash)→Option ((List mosaic_Clash)×Int×(List (mosaic_where×(List api_Span)))))) (a1:mosaic_used) (a0:(List mosaic_used)):Nat→Int→(List mosaic_Clash)→Option ((List mosaic_Clash)×Int×(List (mosaic_where×(List api_Span))))
  | 0,_,_=>none
  | n+1,a5,a4=>Cw a2 a3 k4 a1 a0 (B1 a2 a3 k4 a1 a0 n) a5 a4
def Cv (F:Nat) (a1:((List mosaic_used)×(List (mosaic_where×(List api_Span))))) (a3:Int) (k2:(Int→(List mosaic_Clash)→Option ((List mosaic_Clash)×Int×(List (mosaic_where×(List api_Span)))))) (k4:(Int→(List mosaic_Clash)→Option ((List mosaic_Clash)×Int×(List (mosaic_where×(List api_Span)))))) (a0:Int) (a2:(List mosaic_Clash)):Option ((List mosaic_Clash)×Int×(List (mosaic_where×(List api_Span)))) :=
  bif (decide (a0<((a1.1.length:Nat):Int))) then ((Bz a1.1 a0).bind fun a4 =>
  (Bz a4.bands a3).bind fun a6 =>
  bif (!(Ai a6)) then (Bj a0 k4 a2) else ((ck (a0+1)).bind fun a7 =>
  (Nx a1.1 a7 ((a1.1.length:Nat):Int)).bind fun a5 =>
  B1 a3 a0 k4 a4 a5 F 0 a2)) else (Cy a3 k2 a2)
def Av (F:Nat) (a1:((List mosaic_used)×(List (mosaic_where×(List api_Span))))) (a0:Int) (k2:(Int→(List mosaic_Clash)→Option ((List mosaic_Clash)×Int×(List (mosaic_where×(List api_Span)))))):Nat→Int→(List mosaic_Clash)→Option ((List mosaic_Clash)×Int×(List (mosaic_where×(List api_Span))))
  | 0,_,_=>none
  | n+1,a3,a2=>Cv F a1 a0 k2 (Av F a1 a0 k2 n) a3 a2
def Cu (F:Nat) (a2:((List mosaic_used)×(List (mosaic_where×(List api_Span))))) (a3:Int) (k2:(Int→(List mosaic_Clash)→Option ((List mosaic_Clash)×Int×(List (mosaic_where×(List api_Span)))))) (a1:Int) (a0:(List mosaic_Clash)):Option ((List mosaic_Clash)×Int×(List (mosaic_where×(List api_Span)))) :=
  bif (decide (a1<a3)) then (Av F a2 a1 k2 F 0 a0) else (Cx a2 a0)
def B0 (F:Nat) (a1:((List mosaic_used)×(List (mosaic_where×(List api_Span))))) (a0:Int):Nat→Int→(List mosaic_Clash)→Option ((List mosaic_Clash)×Int×(List (mosaic_where×(List api_Span))))
  | 0,_,_=>none
  | n+1,a3,a2=>Cu F a1 a0 (B0 F a1 a0 n) a3 a2
def Bn (F:Nat) (p0:mosaic_Node) (p1:Int):Option ((List mosaic_Clash)×Int×(List (mosaic_where×(List api_Span)))) :=
  (Cl F p0 p1).bind fun a0 =>
  bif (a0 != 0) then (some (([]:(List mosaic_Clash)),a0,p0.looks)) else ((De F p0 p1).bind fun a2 =>
  (ck (p0.spec.Grid.Wide*p0.spec.Grid.High)).bind fun a1 =>
  B0 F a2 a1 F 0 ([]))
def Be (F:Nat):Option Bool :=
  (H0 F).bind fun a0 =>
  some a0
def Dm (a0:Int) (k3:(Int→Option Bool)):Option Bool :=
  (ck (a0+1)).bind fun a1 =>
  k3 a1
def Dn (a1:Int) (k3:(Int→Option Bool)) (a0:Bool):Option Bool :=
  bif (!a0) then (some false) else (Dm a1 k3)
def Dk (a5:((List mosaic_Clash)×Int×(List (mosaic_where×(List api_Span))))) (a7:((List mosaic_Clash)×Int×(List (mosaic_where×(List api_Span))))) (a4:Int) (k3:(Int→Option Bool)) (k6:(Bool→Int→Option Bool)) (a2:Bool) (a3:Int):Option Bool :=
  bif (decide (a3<((a5.1.length:Nat):Int))) then ((gd ((a2==false&&true)) (Bz a5.1 a3) default).bind fun a0 =>
  (gd ((a2==false&&true)) (Bz a7.1 a4) default).bind fun a1 =>
  (ck (a3+1)).bind fun a6 =>
  k6 (bif a2 then true else (((a0.Pixel:Int)==a1.Pixel)&&(((a0.A.Name==a1.A.Name)&&(((a0.A.Tilt:Int)==a1.A.Tilt)&&(((a0.A.Time:Int)==a1.A.Time)&&true)))&&(((a0.B.Name==a1.B.Name)&&(((a0.B.Tilt:Int)==a1.B.Tilt)&&(((a0.B.Time:Int)==a1.B.Time)&&true)))&&true)))) a6) else (Dn a4 k3 a2)
def C5 (a1:((List mosaic_Clash)×Int×(List (mosaic_where×(List api_Span))))) (a2:((List mosaic_Clash)×Int×(List (mosaic_where×(List api_Span))))) (a0:Int) (k3:(Int→Option Bool)):Nat→Bool→Int→Option Bool
  | 0,_,_=>none
  | n+1,a3,a4=>Dk a1 a2 a0 k3 (C5 a1 a2 a0 k3 n) a3 a4
def Dj (F:Nat) (a2:((List mosaic_Clash)×Int×(List (mosaic_where×(List api_Span))))) (a1:((List mosaic_Clash)×Int×(List (mosaic_where×(List api_Span))))) (k3:(Int→Option Bool)) (a0:Int):Option Bool :=
  bif (decide (a0<((a1.1.length:Nat):Int))) then (C5 a2 a1 a0 k3 F false 0) else (Be F)
def Bm (F:Nat) (a0:((List mosaic_Clash)×Int×(List (mosaic_where×(List api_Span))))) (a1:((List mosaic_Clash)×Int×(List (mosaic_where×(List api_Span))))):Nat→Int→Option Bool
  | 0,_=>none
  | n+1,a2=>Dj F a0 a1 (Bm F a0 a1 n) a2
def Cq (F:Nat) (p3:Int) (aG:Int) (aH:Int) (aI:Int) (aJ:Int) (aK:Int) (aL:Int) (aM:Int) (aN:Int) (aO:Int) (a4:(List mosaic_Radar)) (aP:Int) (aQ:Int) (aR:Int) (aS:Int) (aT:Int) (aU:Int) (aV:Int) (aW:Int) (aX:Int) (aY:Int) (a5:(List mosaic_Radar)) (aZ:Int) (b0:Int) (b1:Int) (b2:Int) (b3:Int) (b4:Int) (b5:Int) (b6:Int) (b7:Int) (b8:Int) (a6:(List mosaic_Radar)) (b9:Int) (a7:(List (ByteArray×mosaic_Radar))) (a8:(List (mosaic_Key×(List (List api_Span))))) (a9:(List (mosaic_where×(List api_Span)))) (aA:(List (ByteArray×mosaic_Radar))) (aB:(List (mosaic_Key×(List (List api_Span))))) (aC:(List (mosaic_where×(List api_Span)))) (aD:(List (ByteArray×mosaic_Radar))) (aE:(List (mosaic_Key×(List (List api_Span))))) (aF:(List (mosaic_where×(List api_Span)))):Option Bool :=
  (ck p3).bind fun bA =>
  (Da bA 4000).bind fun a0 =>
  (Bn F (mosaic_Node.mk (mosaic_Spec.mk (api_Grid.mk aQ aR aU aV aW) (api_Span.mk aX aY) a5 aZ) aA aS aB aT aC) a0).bind fun a1 =>
  (Bn F (mosaic_Node.mk (mosaic_Spec.mk (api_Grid.mk b0 b1 b4 b5 b6) (api_Span.mk b7 b8) a6 b9) aD b2 aE b3 aF) a0).bind fun a2 =>
  (Bn F (mosaic_Node.mk (mosaic_Spec.mk (api_Grid.mk aG aH aK aL aM) (api_Span.mk aN aO) a4 aP) a7 aI a8 aJ a9) a0).bind fun a3 =>
  bif (bif (bif (bif (a1.2.1 != 0) then true else (a2.2.1 != 0)) then true else (a3.2.1 != 0)) then true else (((a1.1.length:Nat):Int) != 0)) then (some false) else (Bm F a2 a3 F 0)
def C4 (aD:Int) (k7:(Int→Int→Int→Int→Int→Int→Int→Int→Int→(List mosaic_Radar)→Int→Int→Int→Int→Int→Int→Int→Int→Int→Int→(List mosaic_Radar)→Int→Int→Int→Int→Int→Int→Int→Int→Int→Int→(List mosaic_Radar)→Int→(List (ByteArray×mosaic_Radar))→(List (mosaic_Key×(List (List api_Span))))→(List (mosaic_where×(List api_Span)))→(List (ByteArray×mosaic_Radar))→(List (mosaic_Key×(List (List api_Span))))→(List (mosaic_where×(List api_Span)))→(List (ByteArray×mosaic_Radar))→(List (mosaic_Key×(List (List api_Span))))→(List (mosaic_where×(List api_Span)))→(List mosaic_Key)→Int→Option Bool)) (aE:Int) (aF:Int) (aG:Int) (aH:Int) (aI:Int) (aJ:Int) (aK:Int) (aL:Int) (aM:Int) (a0:(List mosaic_Radar)) (aN:Int) (aO:Int) (aP:Int) (aQ:Int) (aR:Int) (aS:Int) (aT:Int) (aU:Int) (aV:Int) (aW:Int) (a1:(List mosaic_Radar)) (aX:Int) (aY:Int) (aZ:Int) (b0:Int) (b1:Int) (b2:Int) (b3:Int) (b4:Int) (b5:Int) (b6:Int) (a2:(List mosaic_Radar)) (b7:Int) (a3:(List (ByteArray×mosaic_Radar))) (a4:(List (mosaic_Key×(List (List api_Span))))) (a5:(List (mosaic_where×(List api_Span)))) (a6:(List (ByteArray×mosaic_Radar))) (a7:(List (mosaic_Key×(List (List api_Span))))) (a8:(List (mosaic_where×(List api_Span)))) (a9:(List (ByteArray×mosaic_Radar))) (aA:(List (mosaic_Key×(List (List api_Span))))) (aB:(List (mosaic_where×(List api_Span)))) (aC:(List mosaic_Key)):Option Bool :=
  (ck (aD+1)).bind fun b8 =>
  k7 aE aF aG aH aI aJ aK aL aM a0 aN aO aP aQ aR aS aT aU aV aW a1 aX aY aZ b0 b1 b2 b3 b4 b5 b6 a2 b7 a3 a4 a5 a6 a7 a8 a9 aA aB aC b8
def Bs (F:Nat) (aF:Int) (aG:Int) (aH:Int) (aI:Int) (aJ:Int) (aK:Int) (aL:Int) (aM:Int) (aN:Int) (a4:(List mosaic_Radar)) (aO:Int) (aP:Int) (aQ:Int) (aR:Int) (aS:Int) (aT:Int) (aU:Int) (aV:Int) (aW:Int) (aX:Int) (a5:(List mosaic_Radar)) (aY:Int) (a6:(List (ByteArray×mosaic_Radar))) (a7:(List (mosaic_Key×(List (List api_Span))))) (a8:(List (mosaic_where×(List api_Span)))) (a9:(List (ByteArray×mosaic_Radar))) (aA:(List (mosaic_Key×(List (List api_Span))))) (aB:(List (mosaic_where×(List api_Span)))) (aZ:Int) (k7:(Int→Int→Int→Int→Int→Int→Int→Int→Int→(List mosaic_Radar)→Int→Int→Int→Int→Int→Int→Int→Int→Int→Int→(List mosaic_Radar)→Int→Int→Int→Int→Int→Int→Int→Int→Int→Int→(List mosaic_Radar)→Int→(List (ByteArray×mosaic_Radar))→(List (mosaic_Key×(List (List api_Span))))→(List (mosaic_where×(List api_Span)))→(List (ByteArray×mosaic_Radar))→(List (mosaic_Key×(List (List api_Span))))→(List (mosaic_where×(List api_Span)))→(List (ByteArray×mosaic_Radar))→(List (mosaic_Key×(List (List api_Span))))→(List (mosaic_where×(List api_Span)))→(List mosaic_Key)→Int→Option Bool)) (a3:mosaic_Message) (aC:(List mosaic_Key)) (a0:(Bool×Int×mosaic_Node)) (aD:(List api_Span)) (aE:(List api_Span)):Option Bool :=
  (B4 F (mosaic_Node.mk (mosaic_Spec.mk (api_Grid.mk aF aG aJ aK aL) (api_Span.mk aM aN) a4 aO) a6 aH a7 aI a8) (mosaic_Message.mk a3.Key aD)).bind fun a1 =>
  (B4 F (mosaic_Node.mk (mosaic_Spec.mk (api_Grid.mk aP aQ aT aU aV) (api_Span.mk aW aX) a5 aY) a9 aR aA aS aB) (mosaic_Message.mk a3.Key aE)).bind fun a2 =>
  C4 aZ k7 a1.2.2.spec.Grid.X a1.2.2.spec.Grid.Y a1.2.2.horizon a1.2.2.count a1.2.2.spec.Grid.Size a1.2.2.spec.Grid.Wide a1.2.2.spec.Grid.High a1.2.2.spec.Earth.Lo a1.2.2.spec.Earth.Hi a1.2.2.spec.Radars a1.2.2.spec.Age a2.2.2.spec.Grid.X a2.2.2.spec.Grid.Y a2.2.2.horizon a2.2.2.count a2.2.2.spec.Grid.Size a2.2.2.spec.Grid.Wide a2.2.2.spec.Grid.High a2.2.2.spec.Earth.Lo a2.2.2.spec.Earth.Hi a2.2.2.spec.Radars a2.2.2.spec.Age a0.2.2.spec.Grid.X a0.2.2.spec.Grid.Y a0.2.2.horizon a0.2.2.count a0.2.2.spec.Grid.Size a0.2.2.spec.Grid.Wide a0.2.2.spec.Grid.High a0.2.2.spec.Earth.Lo a0.2.2.spec.Earth.Hi a0.2.2.spec.Radars a0.2.2.spec.Age a1.2.2.radars a1.2.2.kept a1.2.2.looks a2.2.2.radars a2.2.2.kept a2.2.2.looks a0.2.2.radars a0.2.2.kept a0.2.2.looks aC
def Bt (p1:(List law11_Post)) (p4:Int) (a1:Int) (a5:mosaic_Message) (a7:(List api_Span)) (a8:(List api_Span)) (a0:Int) (a6:((List api_Span)→(List api_Span)→Int→Option Bool)) (a2:Int):Option Bool :=
  (Bz a5.Vals a0).bind fun aB =>
  (ck p4).bind fun aF =>
  (ck (aB.Lo-aF)).bind fun a3 =>
  (Bz a5.Vals a0).bind fun aC =>
  (ck p4).bind fun aG =>
  (ck (aC.Hi+aG)).bind fun aH =>
  (apd 16 a7 ([(api_Span.mk (if a3>0 then a3 else 0) aH)])).bind fun a9 =>
  (Bz p1 a1).bind fun aD =>
  (ck aD.Wide).bind fun aI =>
  (ck (a2-aI)).bind fun a4 =>
  (Bz p1 a1).bind fun aE =>
  (ck aE.Tilt).bind fun aJ =>
  (ck (a2+aJ)).bind fun aK =>
  (apd 16 a8 ([(api_Span.mk (if a4>0 then a4 else 0) aK)])).bind fun aA =>
  (ck (a0+1)).bind fun aL =>
  a6 a9 aA aL
def D6 (F:Nat) (p1:(List law11_Post)) (p2:(List Int)) (p4:Int) (aG:Int) (aH:Int) (aI:Int) (aJ:Int) (aK:Int) (aL:Int) (aM:Int) (aN:Int) (aO:Int) (a6:(List mosaic_Radar)) (aP:Int) (aQ:Int) (aR:Int) (aS:Int) (aT:Int) (aU:Int) (aV:Int) (aW:Int) (aX:Int) (aY:Int) (a7:(List mosaic_Radar)) (aZ:Int) (a8:(List (ByteArray×mosaic_Radar))) (a9:(List (mosaic_Key×(List (List api_Span))))) (aA:(List (mosaic_where×(List api_Span)))) (aB:(List (ByteArray×mosaic_Radar))) (aC:(List (mosaic_Key×(List (List api_Span))))) (aD:(List (mosaic_where×(List api_Span)))) (a4:Int) (k7:(Int→Int→Int→Int→Int→Int→Int→Int→Int→(List mosaic_Radar)→Int→Int→Int→Int→Int→Int→Int→Int→Int→Int→(List mosaic_Radar)→Int→Int→Int→Int→Int→Int→Int→Int→Int→Int→(List mosaic_Radar)→Int→(List (ByteArray×mosaic_Radar))→(List (mosaic_Key×(List (List api_Span))))→(List (mosaic_where×(List api_Span)))→(List (ByteArray×mosaic_Radar))→(List (mosaic_Key×(List (List api_Span))))→(List (mosaic_where×(List api_Span)))→(List (ByteArray×mosaic_Radar))→(List (mosaic_Key×(List (List api_Span))))→(List (mosaic_where×(List api_Span)))→(List mosaic_Key)→Int→Option Bool)) (a1:mosaic_Message) (aE:(List mosaic_Key)) (b2:(Bool×Int×mosaic_Node)) (a5:((List api_Span)→(List api_Span)→Int→Option Bool)) (a2:(List api_Span)) (a3:(List api_Span)) (a0:Int):Option Bool :=
  bif (decide (a0<((a1.Vals.length:Nat):Int))) then (bif (decide (((p2.length:Nat):Int)>0)) then ((Da a0 ((p2.length:Nat):Int)).bind fun b0 =>
  (Bz p2 b0).bind fun aF =>
  (ck aF).bind fun b1 =>
  Bt p1 p4 a4 a1 a2 a3 a0 a5 b1) else (Bt p1 p4 a4 a1 a2 a3 a0 a5 0)) else (Bs F aG aH aI aJ aK aL aM aN aO a6 aP aQ aR aS aT aU aV aW aX aY a7 aZ a8 a9 aA aB aC aD a4 k7 a1 aE b2 a2 a3)
def Bi (F:Nat) (p1:(List law11_Post)) (p2:(List Int)) (p4:Int) (a9:Int) (aA:Int) (aB:Int) (aC:Int) (aD:Int) (aE:Int) (aF:Int) (aG:Int) (aH:Int) (a0:(List mosaic_Radar)) (aI:Int) (aJ:Int) (aK:Int) (aL:Int) (aM:Int) (aN:Int) (aO:Int) (aP:Int) (aQ:Int) (aR:Int) (a1:(List mosaic_Radar)) (aS:Int) (a2:(List (ByteArray×mosaic_Radar))) (a3:(List (mosaic_Key×(List (List api_Span))))) (a4:(List (mosaic_where×(List api_Span)))) (a5:(List (ByteArray×mosaic_Radar))) (a6:(List (mosaic_Key×(List (List api_Span))))) (a7:(List (mosaic_where×(List api_Span)))) (aT:Int) (k7:(Int→Int→Int→Int→Int→Int→Int→Int→Int→(List mosaic_Radar)→Int→Int→Int→Int→Int→Int→Int→Int→Int→Int→(List mosaic_Radar)→Int→Int→Int→Int→Int→Int→Int→Int→Int→Int→(List mosaic_Radar)→Int→(List (ByteArray×mosaic_Radar))→(List (mosaic_Key×(List (List api_Span))))→(List (mosaic_where×(List api_Span)))→(List (ByteArray×mosaic_Radar))→(List (mosaic_Key×(List (List api_Span))))→(List (mosaic_where×(List api_Span)))→(List (ByteArray×mosaic_Radar))→(List (mosaic_Key×(List (List api_Span))))→(List (mosaic_where×(List api_Span)))→(List mosaic_Key)→Int→Option Bool)) (aU:mosaic_Message) (a8:(List mosaic_Key)) (aV:(Bool×Int×mosaic_Node)):Nat→(List api_Span)→(List api_Span)→Int→Option Bool
  | 0,_,_,_=>none
  | n+1,aW,aX,aY=>D6 F p1 p2 p4 a9 aA aB aC aD aE aF aG aH a0 aI aJ aK aL aM aN aO aP aQ aR a1 aS a2 a3 a4 a5 a6 a7 aT k7 aU a8 aV (Bi F p1 p2 p4 a9 aA aB aC aD aE aF aG aH a0 aI aJ aK aL aM aN aO aP aQ aR a1 aS a2 a3 a4 a5 a6 a7 aT k7 aU a8 aV n) aW aX aY
def Cr (F:Nat) (p1:(List law11_Post)) (p2:(List Int)) (p4:Int) (aE:Int) (aF:Int) (aG:Int) (aH:Int) (aI:Int) (aJ:Int) (aK:Int) (aL:Int) (aM:Int) (a1:(List mosaic_Radar)) (aN:Int) (aO:Int) (aP:Int) (aQ:Int) (aR:Int) (aS:Int) (aT:Int) (aU:Int) (aV:Int) (aW:Int) (a2:(List mosaic_Radar)) (aX:Int) (aY:Int) (aZ:Int) (b0:Int) (b1:Int) (b2:Int) (b3:Int) (b4:Int) (b5:Int) (b6:Int) (a3:(List mosaic_Radar)) (b7:Int) (a4:(List (ByteArray×mosaic_Radar))) (a5:(List (mosaic_Key×(List (List api_Span))))) (a6:(List (mosaic_where×(List api_Span)))) (a7:(List (ByteArray×mosaic_Radar))) (a8:(List (mosaic_Key×(List (List api_Span))))) (a9:(List (mosaic_where×(List api_Span)))) (aA:(List (ByteArray×mosaic_Radar))) (aB:(List (mosaic_Key×(List (List api_Span))))) (aC:(List (mosaic_where×(List api_Span)))) (aD:(List mosaic_Key)) (b8:Int) (k7:(Int→Int→Int→Int→Int→Int→Int→Int→Int→(List mosaic_Radar)→Int→Int→Int→Int→Int→Int→Int→Int→Int→Int→(List mosaic_Radar)→Int→Int→Int→Int→Int→Int→Int→Int→Int→Int→(List mosaic_Radar)→Int→(List (ByteArray×mosaic_Radar))→(List (mosaic_Key×(List (List api_Span))))→(List (mosaic_where×(List api_Span)))→(List (ByteArray×mosaic_Radar))→(List (mosaic_Key×(List (List api_Span))))→(List (mosaic_where×(List api_Span)))→(List (ByteArray×mosaic_Radar))→(List (mosaic_Key×(List (List api_Span))))→(List (mosaic_where×(List api_Span)))→(List mosaic_Key)→Int→Option Bool)) (a0:mosaic_Message) (b9:Bool):Option Bool :=
  bif b9 then (C4 b8 k7 aE aF aG aH aI aJ aK aL aM a1 aN aO aP aQ aR aS aT aU aV aW a2 aX aY aZ b0 b1 b2 b3 b4 b5 b6 a3 b7 a4 a5 a6 a7 a8 a9 aA aB aC aD) else ((apd 32 aD ([a0.Key])).bind fun bA =>
  (B4 F (mosaic_Node.mk (mosaic_Spec.mk (api_Grid.mk aY aZ b2 b3 b4) (api_Span.mk b5 b6) a3 b7) aA b0 aB b1 aC) a0).bind fun bB =>
  Bi F p1 p2 p4 aE aF aG aH aI aJ aK aL aM a1 aN aO aP aQ aR aS aT aU aV aW a2 aX a4 a5 a6 a7 a8 a9 b8 k7 a0 bA bB F ([]) ([]) 0)
def D7 (F:Nat) (p1:(List law11_Post)) (p2:(List Int)) (p4:Int) (aI:Int) (aJ:Int) (aK:Int) (aL:Int) (aM:Int) (aN:Int) (aO:Int) (aP:Int) (aQ:Int) (a6:(List mosaic_Radar)) (aR:Int) (aS:Int) (aT:Int) (aU:Int) (aV:Int) (aW:Int) (aX:Int) (aY:Int) (aZ:Int) (b0:Int) (a7:(List mosaic_Radar)) (b1:Int) (b2:Int) (b3:Int) (b4:Int) (b5:Int) (b6:Int) (b7:Int) (b8:Int) (b9:Int) (bA:Int) (a8:(List mosaic_Radar)) (bB:Int) (a9:(List (ByteArray×mosaic_Radar))) (aA:(List (mosaic_Key×(List (List api_Span))))) (aB:(List (mosaic_where×(List api_Span)))) (aC:(List (ByteArray×mosaic_Radar))) (aD:(List (mosaic_Key×(List (List api_Span))))) (aE:(List (mosaic_where×(List api_Span)))) (aF:(List (ByteArray×mosaic_Radar))) (aG:(List (mosaic_Key×(List (List api_Span))))) (aH:(List (mosaic_where×(List api_Span)))) (a2:(List mosaic_Key)) (bC:Int) (k7:(Int→Int→Int→Int→Int→Int→Int→Int→Int→(List mosaic_Radar)→Int→Int→Int→Int→Int→Int→Int→Int→Int→Int→(List mosaic_Radar)→Int→Int→Int→Int→Int→Int→Int→Int→Int→Int→(List mosaic_Radar)→Int→(List (ByteArray×mosaic_Radar))→(List (mosaic_Key×(List (List api_Span))))→(List (mosaic_where×(List api_Span)))→(List (ByteArray×mosaic_Radar))→(List (mosaic_Key×(List (List api_Span))))→(List (mosaic_where×(List api_Span)))→(List (ByteArray×mosaic_Radar))→(List (mosaic_Key×(List (List api_Span))))→(List (mosaic_where×(List api_Span)))→(List mosaic_Key)→Int→Option Bool)) (a0:mosaic_Message) (a5:(Bool→Int→Option Bool)) (a1:Bool) (a4:Int):Option Bool :=
  bif (decide (a4<((a2.length:Nat):Int))) then ((gd ((a1==false&&true)) (Bz a2 a4) default).bind fun a3 =>
  (ck (a4+1)).bind fun bD =>
  a5 (bif a1 then true else ((a3.Name==a0.Key.Name)&&(((a3.Tilt:Int)==a0.Key.Tilt)&&(((a3.Time:Int)==a0.Key.Time)&&true)))) bD) else (Cr F p1 p2 p4 aI aJ aK aL aM aN aO aP aQ a6 aR aS aT aU aV aW aX aY aZ b0 a7 b1 b2 b3 b4 b5 b6 b7 b8 b9 bA a8 bB a9 aA aB aC aD aE aF aG aH a2 bC k7 a0 a1)
def Bu (F:Nat) (p1:(List law11_Post)) (p2:(List Int)) (p4:Int) (aD:Int) (aE:Int) (aF:Int) (aG:Int) (aH:Int) (aI:Int) (aJ:Int) (aK:Int) (aL:Int) (a0:(List mosaic_Radar)) (aM:Int) (aN:Int) (aO:Int) (aP:Int) (aQ:Int) (aR:Int) (aS:Int) (aT:Int) (aU:Int) (aV:Int) (a1:(List mosaic_Radar)) (aW:Int) (aX:Int) (aY:Int) (aZ:Int) (b0:Int) (b1:Int) (b2:Int) (b3:Int) (b4:Int) (b5:Int) (a2:(List mosaic_Radar)) (b6:Int) (a3:(List (ByteArray×mosaic_Radar))) (a4:(List (mosaic_Key×(List (List api_Span))))) (a5:(List (mosaic_where×(List api_Span)))) (a6:(List (ByteArray×mosaic_Radar))) (a7:(List (mosaic_Key×(List (List api_Span))))) (a8:(List (mosaic_where×(List api_Span)))) (a9:(List (ByteArray×mosaic_Radar))) (aA:(List (mosaic_Key×(List (List api_Span))))) (aB:(List (mosaic_where×(List api_Span)))) (aC:(List mosaic_Key)) (b7:Int) (k7:(Int→Int→Int→Int→Int→Int→Int→Int→Int→(List mosaic_Radar)→Int→Int→Int→Int→Int→Int→Int→Int→Int→Int→(List mosaic_Radar)→Int→Int→Int→Int→Int→Int→Int→Int→Int→Int→(List mosaic_Radar)→Int→(List (ByteArray×mosaic_Radar))→(List (mosaic_Key×(List (List api_Span))))→(List (mosaic_where×(List api_Span)))→(List (ByteArray×mosaic_Radar))→(List (mosaic_Key×(List (List api_Span))))→(List (mosaic_where×(List api_Span)))→(List (ByteArray×mosaic_Radar))→(List (mosaic_Key×(List (List api_Span))))→(List (mosaic_where×(List api_Span)))→(List mosaic_Key)→Int→Option Bool)) (b8:mosaic_Message):Nat→Bool→Int→Option Bool
  | 0,_,_=>none
  | n+1,b9,bA=>D7 F p1 p2 p4 aD aE aF aG aH aI aJ aK aL a0 aM aN aO aP aQ aR aS aT aU aV a1 aW aX aY aZ b0 b1 b2 b3 b4 b5 a2 b6 a3 a4 a5 a6 a7 a8 a9 aA aB aC b7 k7 b8 (Bu F p1 p2 p4 aD aE aF aG aH aI aJ aK aL a0 aM aN aO aP aQ aR aS aT aU aV a1 aW aX aY aZ b0 b1 b2 b3 b4 b5 a2 b6 a3 a4 a5 a6 a7 a8 a9 aA aB aC b7 k7 b8 n) b9 bA
def Dl (F:Nat) (p1:(List law11_Post)) (p2:(List Int)) (p3:Int) (p4:Int) (b9:mosaic_Spec) (k7:(Int→Int→Int→Int→Int→Int→Int→Int→Int→(List mosaic_Radar)→Int→Int→Int→Int→Int→Int→Int→Int→Int→Int→(List mosaic_Radar)→Int→Int→Int→Int→Int→Int→Int→Int→Int→Int→(List mosaic_Radar)→Int→(List (ByteArray×mosaic_Radar))→(List (mosaic_Key×(List (List api_Span))))→(List (mosaic_where×(List api_Span)))→(List (ByteArray×mosaic_Radar))→(List (mosaic_Key×(List (List api_Span))))→(List (mosaic_where×(List api_Span)))→(List (ByteArray×mosaic_Radar))→(List (mosaic_Key×(List (List api_Span))))→(List (mosaic_where×(List api_Span)))→(List mosaic_Key)→Int→Option Bool)) (aD:Int) (aE:Int) (aF:Int) (aG:Int) (aH:Int) (aI:Int) (aJ:Int) (aK:Int) (aL:Int) (a1:(List mosaic_Radar)) (aM:Int) (aN:Int) (aO:Int) (aP:Int) (aQ:Int) (aR:Int) (aS:Int) (aT:Int) (aU:Int) (aV:Int) (a2:(List mosaic_Radar)) (aW:Int) (aX:Int) (aY:Int) (aZ:Int) (b0:Int) (b1:Int) (b2:Int) (b3:Int) (b4:Int) (b5:Int) (a3:(List mosaic_Radar)) (b6:Int) (a4:(List (ByteArray×mosaic_Radar))) (a5:(List (mosaic_Key×(List (List api_Span))))) (a6:(List (mosaic_where×(List api_Span)))) (a7:(List (ByteArray×mosaic_Radar))) (a8:(List (mosaic_Key×(List (List api_Span))))) (a9:(List (mosaic_where×(List api_Span)))) (aA:(List (ByteArray×mosaic_Radar))) (aB:(List (mosaic_Key×(List (List api_Span))))) (aC:(List (mosaic_where×(List api_Span)))) (b7:(List mosaic_Key)) (a0:Int):Option Bool :=
  bif (decide (a0<((p1.length:Nat):Int))) then ((Bz p1 a0).bind fun b8 =>
  (Ei F b8 b9).bind fun bA =>
  Bu F p1 p2 p4 aD aE aF aG aH aI aJ aK aL a1 aM aN aO aP aQ aR aS aT aU aV a2 aW aX aY aZ b0 b1 b2 b3 b4 b5 a3 b6 a4 a5 a6 a7 a8 a9 aA aB aC b7 a0 k7 bA F false 0) else (Cq F p3 aD aE aF aG aH aI aJ aK aL a1 aM aN aO aP aQ aR aS aT aU aV a2 aW aX aY aZ b0 b1 b2 b3 b4 b5 a3 b6 a4 a5 a6 a7 a8 a9 aA aB aC)
def C6 (F:Nat) (p1:(List law11_Post)) (p2:(List Int)) (p3:Int) (p4:Int) (a0:mosaic_Spec):Nat→Int→Int→Int→Int→Int→Int→Int→Int→Int→(List mosaic_Radar)→Int→Int→Int→Int→Int→Int→Int→Int→Int→Int→(List mosaic_Radar)→Int→Int→Int→Int→Int→Int→Int→Int→Int→Int→(List mosaic_Radar)→Int→(List (ByteArray×mosaic_Radar))→(List (mosaic_Key×(List (List api_Span))))→(List (mosaic_where×(List api_Span)))→(List (ByteArray×mosaic_Radar))→(List (mosaic_Key×(List (List api_Span))))→(List (mosaic_where×(List api_Span)))→(List (ByteArray×mosaic_Radar))→(List (mosaic_Key×(List (List api_Span))))→(List (mosaic_where×(List api_Span)))→(List mosaic_Key)→Int→Option Bool
  | 0,_,_,_,_,_,_,_,_,_,_,_,_,_,_,_,_,_,_,_,_,_,_,_,_,_,_,_,_,_,_,_,_,_,_,_,_,_,_,_,_,_,_,_,_=>none
  | n+1,aE,aF,aG,aH,aI,aJ,aK,aL,aM,a1,aN,aO,aP,aQ,aR,aS,aT,aU,aV,aW,a2,aX,aY,aZ,b0,b1,b2,b3,b4,b5,b6,a3,b7,a4,a5,a6,a7,a8,a9,aA,aB,aC,aD,b8=>Dl F p1 p2 p3 p4 a0 (C6 F p1 p2 p3 p4 a0 n) aE aF aG aH aI aJ aK aL aM a1 aN aO aP aQ aR aS aT aU aV aW a2 aX aY aZ b0 b1 b2 b3 b4 b5 b6 a3 b7 a4 a5 a6 a7 a8 a9 aA aB aC aD b8
def Di (F:Nat) (p0:law11_Net) (p1:(List law11_Post)) (p2:(List Int)) (p3:Int) (p4:Int):Option Bool :=
  bif (decide (((p1.length:Nat):Int)>12)) then ((H0 F).bind fun y9 =>
  some y9) else ((Dz F (law11_Net.mk p0.Wide p0.High ((law11_Station.mk p0.Stations.1.X p0.Stations.1.Y p0.Stations.1.Z p0.Stations.1.Rose p0.Stations.1.Gates p0.Stations.1.Width p0.Stations.1.Lo p0.Stations.1.Hi),(law11_Station.mk p0.Stations.2.1.X p0.Stations.2.1.Y p0.Stations.2.1.Z p0.Stations.2.1.Rose p0.Stations.2.1.Gates p0.Stations.2.1.Width p0.Stations.2.1.Lo p0.Stations.2.1.Hi),(law11_Station.mk p0.Stations.2.2.X p0.Stations.2.2.Y p0.Stations.2.2.Z p0.Stations.2.2.Rose p0.Stations.2.2.Gates p0.Stations.2.2.Width p0.Stations.2.2.Lo p0.Stations.2.2.Hi)) p0.Count p0.Age)).bind fun a3 =>
  (Ex F a3).bind fun a4 =>
  exc a4 (fun a7=>none) (fun a0=>(Ex F a3).bind fun a5 =>
  exc a5 (fun a8=>none) (fun a1=>(Ex F a3).bind fun a6 =>
  exc a6 (fun a9=>none) (fun a2=>bif (bif (bif (a0.2 != 0) then true else (a1.2 != 0)) then true else (a2.2 != 0)) then (some false) else (C6 F p1 p2 p3 p4 a3 F a2.1.spec.Grid.X a2.1.spec.Grid.Y a2.1.horizon a2.1.count a2.1.spec.Grid.Size a2.1.spec.Grid.Wide a2.1.spec.Grid.High a2.1.spec.Earth.Lo a2.1.spec.Earth.Hi a2.1.spec.Radars a2.1.spec.Age a0.1.spec.Grid.X a0.1.spec.Grid.Y a0.1.horizon a0.1.count a0.1.spec.Grid.Size a0.1.spec.Grid.Wide a0.1.spec.Grid.High a0.1.spec.Earth.Lo a0.1.spec.Earth.Hi a0.1.spec.Radars a0.1.spec.Age a1.1.spec.Grid.X a1.1.spec.Grid.Y a1.1.horizon a1.1.count a1.1.spec.Grid.Size a1.1.spec.Grid.Wide a1.1.spec.Grid.High a1.1.spec.Earth.Lo a1.1.spec.Earth.Hi a1.1.spec.Radars a1.1.spec.Age a2.1.radars a2.1.kept a2.1.looks a0.1.radars a0.1.kept a0.1.looks a1.1.radars a1.1.kept a1.1.looks ([]) 0)))))
end Go.Proofs.Ytkbjbnkkfifbmaa
