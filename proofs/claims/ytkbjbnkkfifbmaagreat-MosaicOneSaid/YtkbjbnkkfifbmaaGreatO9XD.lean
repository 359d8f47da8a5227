import Derived.Test.YtkbjbnkkfifbmaaGreatO9EB
namespace Go.Proofs.YtkbjbnkkfifbmaaGreat
open Go Go.RowKit Go.Eng
set_option maxRecDepth 10000
set_option maxHeartbeats 4000000
set_option linter.unusedVariables false
set_option linter.unusedSimpArgs false
structure api_Grid where
  X:Int
  Y:Int
  Size:Int
  Wide:Int
  High:Int
  deriving Inhabited,DecidableEq
def api_Grid.cells (x:api_Grid):List Value:=[.int .i64 x.X,.int .i64 x.Y,.int .i64 x.Size,.int .i64 x.Wide,.int .i64 x.High]
structure api_Span where
  Lo:Int
  Hi:Int
  deriving Inhabited,DecidableEq
def api_Span.cells (x:api_Span):List Value:=[.int .i64 x.Lo,.int .i64 x.Hi]
theorem api_Span.cells_len (x:api_Span):(api_Span.cells x).length=2:=rfl
structure api_Site where
  Name:ByteArray
  X:Int
  Y:Int
  Z:Int
  Rose:Int
  Gates:Int
  Step:Int
  Width:Int
  deriving Inhabited,DecidableEq
def api_Site.cells (x:api_Site):List Value:=[.string x.Name,.int .i64 x.X,.int .i64 x.Y,.int .i64 x.Z,.int .i64 x.Rose,.int .i64 x.Gates,.int .i64 x.Step,.int .i64 x.Width]
structure mosaic_Radar where
  Site:api_Site
  Offset:api_Span
  deriving Inhabited,DecidableEq
def mosaic_Radar.cells (x:mosaic_Radar):List Value:=[.string x.Site.Name,.int .i64 x.Site.X,.int .i64 x.Site.Y,.int .i64 x.Site.Z,.int .i64 x.Site.Rose,.int .i64 x.Site.Gates,.int .i64 x.Site.Step,.int .i64 x.Site.Width,.int .i64 x.Offset.Lo,.int .i64 x.Offset.Hi]
theorem mosaic_Radar.cells_len (x:mosaic_Radar):(mosaic_Radar.cells x).length=10:=rfl
structure mosaic_Spec where
  Grid:api_Grid
  Earth:api_Span
  Radars:(List mosaic_Radar)
  Age:Int
  deriving Inhabited,DecidableEq
structure mosaic_Key where
  Name:ByteArray
  Tilt:Int
  Time:Int
  deriving Inhabited,DecidableEq
def mosaic_Key.cells (x:mosaic_Key):List Value:=[.string x.Name,.int .i64 x.Tilt,.int .i64 x.Time]
theorem mosaic_Key.cells_len (x:mosaic_Key):(mosaic_Key.cells x).length=3:=rfl
structure mosaic_where where
  name:ByteArray
  tilt:Int
  deriving Inhabited,DecidableEq
def mosaic_where.cells (x:mosaic_where):List Value:=[.string x.name,.int .i64 x.tilt]
structure mosaic_Node where
  spec:mosaic_Spec
  radars:(List (ByteArray×mosaic_Radar))
  horizon:Int
  kept:(List (mosaic_Key×(List (List api_Span))))
  count:Int
  looks:(List (mosaic_where×(List api_Span)))
  deriving Inhabited,DecidableEq
structure mosaic_Message where
  Key:mosaic_Key
  Vals:(List api_Span)
  deriving Inhabited,DecidableEq
structure beam_slant where
  c:Int
  s:Int
  d:Int
  deriving Inhabited,DecidableEq
def beam_slant.cells (x:beam_slant):List Value:=[.int .i64 x.c,.int .i64 x.s,.int .i64 x.d]
structure beam_vector where
  x:Int
  y:Int
  length:Int
  deriving Inhabited,DecidableEq
def beam_vector.cells (x:beam_vector):List Value:=[.int .i64 x.x,.int .i64 x.y,.int .i64 x.length]
structure mosaic_used where
  Key:mosaic_Key
  vals:(List api_Span)
  bands:(List api_Span)
  deriving Inhabited,DecidableEq
structure mosaic_Pixel where
  Value_:api_Span
  Key:mosaic_Key
  deriving Inhabited,DecidableEq
def mosaic_Pixel.cells (x:mosaic_Pixel):List Value:=[.int .i64 x.Value_.Lo,.int .i64 x.Value_.Hi,.string x.Key.Name,.int .i64 x.Key.Tilt,.int .i64 x.Key.Time]
theorem mosaic_Pixel.cells_len (x:mosaic_Pixel):(mosaic_Pixel.cells x).length=5:=rfl
structure law11_Station where
  X:Int
  Y:Int
  Z:Int
  Rose:Int
  Gates:Int
  Width:Int
  Lo:Int
  Hi:Int
  deriving Inhabited,DecidableEq
def law11_Station.cells (x:law11_Station):List Value:=[.int .i16 x.X,.int .i16 x.Y,.int .u16 x.Z,.int .u8 x.Rose,.int .u8 x.Gates,.int .u8 x.Width,.int .u16 x.Lo,.int .u16 x.Hi]
structure law11_Net where
  Wide:Int
  High:Int
  Stations:(law11_Station×law11_Station×law11_Station)
  Count:Int
  Age:Int
  deriving Inhabited,DecidableEq
def law11_Net.cells (x:law11_Net):List Value:=[.int .u8 x.Wide,.int .u8 x.High,.int .i16 x.Stations.1.X,.int .i16 x.Stations.1.Y,.int .u16 x.Stations.1.Z,.int .u8 x.Stations.1.Rose,.int .u8 x.Stations.1.Gates,.int .u8 x.Stations.1.Width,.int .u16 x.Stations.1.Lo,.int .u16 x.Stations.1.Hi,.int .i16 x.Stations.2.1.X,.int .i16 x.Stations.2.1.Y,.int .u16 x.Stations.2.1.Z,.int .u8 x.Stations.2.1.Rose,.int .u8 x.Stations.2.1.Gates,.int .u8 x.Stations.2.1.Width,.int .u16 x.Stations.2.1.Lo,.int .u16 x.Stations.2.1.Hi,.int .i16 x.Stations.2.2.X,.int .i16 x.Stations.2.2.Y,.int .u16 x.Stations.2.2.Z,.int .u8 x.Stations.2.2.Rose,.int .u8 x.Stations.2.2.Gates,.int .u8 x.Stations.2.2.Width,.int .u16 x.Stations.2.2.Lo,.int .u16 x.Stations.2.2.Hi,.int .u8 x.Count,.int .u16 x.Age]
structure law11_Post where
  Radar:Int
  Tilt:Int
  Time:Int
  Vals:(List Int)
  Wide:Int
  deriving Inhabited,DecidableEq
structure mosaic_Clash where
  Pixel:Int
  A:mosaic_Key
  B:mosaic_Key
  deriving Inhabited,DecidableEq
def mosaic_Clash.cells (x:mosaic_Clash):List Value:=[.int .i64 x.Pixel,.string x.A.Name,.int .i64 x.A.Tilt,.int .i64 x.A.Time,.string x.B.Name,.int .i64 x.B.Tilt,.int .i64 x.B.Time]
theorem mosaic_Clash.cells_len (x:mosaic_Clash):(mosaic_Clash.cells x).length=7:=rfl
abbrev api_Grid.ar (x:api_Grid):Array Value:=#[.int .i64 x.X,.int .i64 x.Y,.int .i64 x.Size,.int .i64 x.Wide,.int .i64 x.High]
abbrev api_Grid.ag (x:api_Grid):Value:=.agg #[.int .i64 x.X,.int .i64 x.Y,.int .i64 x.Size,.int .i64 x.Wide,.int .i64 x.High]
abbrev api_Site.ar (x:api_Site):Array Value:=#[.string x.Name,.int .i64 x.X,.int .i64 x.Y,.int .i64 x.Z,.int .i64 x.Rose,.int .i64 x.Gates,.int .i64 x.Step,.int .i64 x.Width]
abbrev api_Site.ag (x:api_Site):Value:=.agg #[.string x.Name,.int .i64 x.X,.int .i64 x.Y,.int .i64 x.Z,.int .i64 x.Rose,.int .i64 x.Gates,.int .i64 x.Step,.int .i64 x.Width]
abbrev mosaic_Radar.ar (x:mosaic_Radar):Array Value:=#[.string x.Site.Name,.int .i64 x.Site.X,.int .i64 x.Site.Y,.int .i64 x.Site.Z,.int .i64 x.Site.Rose,.int .i64 x.Site.Gates,.int .i64 x.Site.Step,.int .i64 x.Site.Width,.int .i64 x.Offset.Lo,.int .i64 x.Offset.Hi]
abbrev mosaic_Radar.ag (x:mosaic_Radar):Value:=.agg #[.string x.Site.Name,.int .i64 x.Site.X,.int .i64 x.Site.Y,.int .i64 x.Site.Z,.int .i64 x.Site.Rose,.int .i64 x.Site.Gates,.int .i64 x.Site.Step,.int .i64 x.Site.Width,.int .i64 x.Offset.Lo,.int .i64 x.Offset.Hi]
abbrev mosaic_Key.ar (x:mosaic_Key):Array Value:=#[.string x.Name,.int .i64 x.Tilt,.int .i64 x.Time]
abbrev mosaic_Key.ag (x:mosaic_Key):Value:=.agg #[.string x.Name,.int .i64 x.Tilt,.int .i64 x.Time]
abbrev beam_slant.ar (x:beam_slant):Array Value:=#[.int .i64 x.c,.int .i64 x.s,.int .i64 x.d]
abbrev beam_slant.ag (x:beam_slant):Value:=.agg #[.int .i64 x.c,.int .i64 x.s,.int .i64 x.d]
abbrev beam_vector.ar (x:beam_vector):Array Value:=#[.int .i64 x.x,.int .i64 x.y,.int .i64 x.length]
abbrev beam_vector.ag (x:beam_vector):Value:=.agg #[.int .i64 x.x,.int .i64 x.y,.int .i64 x.length]
abbrev mosaic_Pixel.ar (x:mosaic_Pixel):Array Value:=#[.int .i64 x.Value_.Lo,.int .i64 x.Value_.Hi,.string x.Key.Name,.int .i64 x.Key.Tilt,.int .i64 x.Key.Time]
abbrev mosaic_Pixel.ag (x:mosaic_Pixel):Value:=.agg #[.int .i64 x.Value_.Lo,.int .i64 x.Value_.Hi,.string x.Key.Name,.int .i64 x.Key.Tilt,.int .i64 x.Key.Time]
abbrev law11_Station.ar (x:law11_Station):Array Value:=#[.int .i16 x.X,.int .i16 x.Y,.int .u16 x.Z,.int .u8 x.Rose,.int .u8 x.Gates,.int .u8 x.Width,.int .u16 x.Lo,.int .u16 x.Hi]
abbrev law11_Station.ag (x:law11_Station):Value:=.agg #[.int .i16 x.X,.int .i16 x.Y,.int .u16 x.Z,.int .u8 x.Rose,.int .u8 x.Gates,.int .u8 x.Width,.int .u16 x.Lo,.int .u16 x.Hi]
abbrev law11_Net.ar (x:law11_Net):Array Value:=#[.int .u8 x.Wide,.int .u8 x.High,.int .i16 x.Stations.1.X,.int .i16 x.Stations.1.Y,.int .u16 x.Stations.1.Z,.int .u8 x.Stations.1.Rose,.int .u8 x.Stations.1.Gates,.int .u8 x.Stations.1.Width,.int .u16 x.Stations.1.Lo,.int .u16 x.Stations.1.Hi,.int .i16 x.Stations.2.1.X,.int .i16 x.Stations.2.1.Y,.int .u16 x.Stations.2.1.Z,.int .u8 x.Stations.2.1.Rose,.int .u8 x.Stations.2.1.Gates,.int .u8 x.Stations.2.1.Width,.int .u16 x.Stations.2.1.Lo,.int .u16 x.Stations.2.1.Hi,.int .i16 x.Stations.2.2.X,.int .i16 x.Stations.2.2.Y,.int .u16 x.Stations.2.2.Z,.int .u8 x.Stations.2.2.Rose,.int .u8 x.Stations.2.2.Gates,.int .u8 x.Stations.2.2.Width,.int .u16 x.Stations.2.2.Lo,.int .u16 x.Stations.2.2.Hi,.int .u8 x.Count,.int .u16 x.Age]
abbrev law11_Net.ag (x:law11_Net):Value:=.agg #[.int .u8 x.Wide,.int .u8 x.High,.int .i16 x.Stations.1.X,.int .i16 x.Stations.1.Y,.int .u16 x.Stations.1.Z,.int .u8 x.Stations.1.Rose,.int .u8 x.Stations.1.Gates,.int .u8 x.Stations.1.Width,.int .u16 x.Stations.1.Lo,.int .u16 x.Stations.1.Hi,.int .i16 x.Stations.2.1.X,.int .i16 x.Stations.2.1.Y,.int .u16 x.Stations.2.1.Z,.int .u8 x.Stations.2.1.Rose,.int .u8 x.Stations.2.1.Gates,.int .u8 x.Stations.2.1.Width,.int .u16 x.Stations.2.1.Lo,.int .u16 x.Stations.2.1.Hi,.int .i16 x.Stations.2.2.X,.int .i16 x.Stations.2.2.Y,.int .u16 x.Stations.2.2.Z,.int .u8 x.Stations.2.2.Rose,.int .u8 x.Stations.2.2.Gates,.int .u8 x.Stations.2.2.Width,.int .u16 x.Stations.2.2.Lo,.int .u16 x.Stations.2.2.Hi,.int .u8 x.Count,.int .u16 x.Age]
abbrev mosaic_Clash.ar (x:mosaic_Clash):Array Value:=#[.int .i64 x.Pixel,.string x.A.Name,.int .i64 x.A.Tilt,.int .i64 x.A.Time,.string x.B.Name,.int .i64 x.B.Tilt,.int .i64 x.B.Time]
abbrev mosaic_Node.ax (x:mosaic_Node) (adg1_:Option Addr) (capg2_:Nat) (mg3_:Nat) (mg4_:Nat) (mg5_:Nat):Array Value:=#[.int .i64 x.spec.Grid.X,.int .i64 x.spec.Grid.Y,.int .i64 x.spec.Grid.Size,.int .i64 x.spec.Grid.Wide,.int .i64 x.spec.Grid.High,.int .i64 x.spec.Earth.Lo,.int .i64 x.spec.Earth.Hi,.slice adg1_ x.spec.Radars.length capg2_,.int .i64 x.spec.Age,.map (some mg3_),.int .i64 x.horizon,.map (some mg4_),.int .i64 x.count,.map (some mg5_)]
abbrev mosaic_Spec.ax (x:mosaic_Spec) (adg1_:Option Addr) (capg2_:Nat):Array Value:=#[.int .i64 x.Grid.X,.int .i64 x.Grid.Y,.int .i64 x.Grid.Size,.int .i64 x.Grid.Wide,.int .i64 x.Grid.High,.int .i64 x.Earth.Lo,.int .i64 x.Earth.Hi,.slice adg1_ x.Radars.length capg2_,.int .i64 x.Age]
abbrev mosaic_used.ax (x:mosaic_used) (adg1_:Option Addr) (capg2_:Nat) (adg3_:Option Addr) (capg4_:Nat):Array Value:=#[.string x.Key.Name,.int .i64 x.Key.Tilt,.int .i64 x.Key.Time,.slice adg1_ x.vals.length capg2_,.slice adg3_ x.bands.length capg4_]
abbrev law11_Post.ax (x:law11_Post) (adg1_:Option Addr) (capg2_:Nat):Array Value:=#[.int .u8 x.Radar,.int .u8 x.Tilt,.int .u16 x.Time,.slice adg1_ x.Vals.length capg2_,.int .u8 x.Wide]
abbrev api_Grid.e0 (x:api_Grid):Bool:=(((x.X:Int)==0)&&(((x.Y:Int)==0)&&(((x.Size:Int)==0)&&(((x.Wide:Int)==0)&&(((x.High:Int)==0)&&true)))))
abbrev api_Site.e0 (x:api_Site):Bool:=((x.Name==ByteArray.empty)&&(((x.X:Int)==0)&&(((x.Y:Int)==0)&&(((x.Z:Int)==0)&&(((x.Rose:Int)==0)&&(((x.Gates:Int)==0)&&(((x.Step:Int)==0)&&(((x.Width:Int)==0)&&true))))))))
abbrev mosaic_Radar.e0 (x:mosaic_Radar):Bool:=((x.Site.Name==ByteArray.empty)&&(((x.Site.X:Int)==0)&&(((x.Site.Y:Int)==0)&&(((x.Site.Z:Int)==0)&&(((x.Site.Rose:Int)==0)&&(((x.Site.Gates:Int)==0)&&(((x.Site.Step:Int)==0)&&(((x.Site.Width:Int)==0)&&(((x.Offset.Lo:Int)==0)&&(((x.Offset.Hi:Int)==0)&&true))))))))))
abbrev mosaic_Key.e0 (x:mosaic_Key):Bool:=((x.Name==ByteArray.empty)&&(((x.Tilt:Int)==0)&&(((x.Time:Int)==0)&&true)))
abbrev beam_slant.e0 (x:beam_slant):Bool:=(((x.c:Int)==0)&&(((x.s:Int)==0)&&(((x.d:Int)==0)&&true)))
abbrev beam_vector.e0 (x:beam_vector):Bool:=(((x.x:Int)==0)&&(((x.y:Int)==0)&&(((x.length:Int)==0)&&true)))
abbrev mosaic_Pixel.e0 (x:mosaic_Pixel):Bool:=(((x.Value_.Lo:Int)==0)&&(((x.Value_.Hi:Int)==0)&&((x.Key.Name==ByteArray.empty)&&(((x.Key.Tilt:Int)==0)&&(((x.Key.Time:Int)==0)&&true)))))
abbrev law11_Station.e0 (x:law11_Station):Bool:=(((x.X:Int)==0)&&(((x.Y:Int)==0)&&(((x.Z:Int)==0)&&(((x.Rose:Int)==0)&&(((x.Gates:Int)==0)&&(((x.Width:Int)==0)&&(((x.Lo:Int)==0)&&(((x.Hi:Int)==0)&&true))))))))
abbrev law11_Net.e0 (x:law11_Net):Bool:=(((x.Wide:Int)==0)&&(((x.High:Int)==0)&&(((x.Stations.1.X:Int)==0)&&(((x.Stations.1.Y:Int)==0)&&(((x.Stations.1.Z:Int)==0)&&(((x.Stations.1.Rose:Int)==0)&&(((x.Stations.1.Gates:Int)==0)&&(((x.Stations.1.Width:Int)==0)&&(((x.Stations.1.Lo:Int)==0)&&(((x.Stations.1.Hi:Int)==0)&&(((x.Stations.2.1.X:Int)==0)&&(((x.Stations.2.1.Y:Int)==0)&&(((x.Stations.2.1.Z:Int)==0)&&(((x.Stations.2.1.Rose:Int)==0)&&(((x.Stations.2.1.Gates:Int)==0)&&(((x.Stations.2.1.Width:Int)==0)&&(((x.Stations.2.1.Lo:Int)==0)&&(((x.Stations.2.1.Hi:Int)==0)&&(((x.Stations.2.2.X:Int)==0)&&(((x.Stations.2.2.Y:Int)==0)&&(((x.Stations.2.2.Z:Int)==0)&&(((x.Stations.2.2.Rose:Int)==0)&&(((x.Stations.2.2.Gates:Int)==0)&&(((x.Stations.2.2.Width:Int)==0)&&(((x.Stations.2.2.Lo:Int)==0)&&(((x.Stations.2.2.Hi:Int)==0)&&(((x.Count:Int)==0)&&(((x.Age:Int)==0)&&true))))))))))))))))))))))))))))
abbrev mosaic_Clash.e0 (x:mosaic_Clash):Bool:=(((x.Pixel:Int)==0)&&((x.A.Name==ByteArray.empty)&&(((x.A.Tilt:Int)==0)&&(((x.A.Time:Int)==0)&&((x.B.Name==ByteArray.empty)&&(((x.B.Tilt:Int)==0)&&(((x.B.Time:Int)==0)&&true)))))))
abbrev A1r:Array Value:=#[.string ByteArray.empty,.int .i64 0,.int .i64 0,.int .i64 0,.int .i64 0,.int .i64 0,.int .i64 0,.int .i64 0,.int .i64 0,.int .i64 0]
abbrev z37:Array Value:=#[.int .i64 0,.int .i64 0,.int .i64 0,.int .i64 0,.int .i64 0,.int .i64 0,.int .i64 0,.slice none 0 0,.int .i64 0]
abbrev Wr:Array Value:=#[.string ByteArray.empty,.int .i64 0,.int .i64 0,.int .i64 0,.int .i64 0,.int .i64 0,.int .i64 0,.int .i64 0]
abbrev z25:Array Value:=#[.int .i16 0,.int .i16 0,.int .u16 0,.int .u8 0,.int .u8 0,.int .u8 0,.int .u16 0,.int .u16 0]
abbrev A4n:Array Value:=#[.string ByteArray.empty,.int .i64 0,.int .i64 0,.slice none 0 0,.slice none 0 0]
abbrev z66:Array Value:=#[.int .i64 0,.int .i64 0,.string ByteArray.empty,.int .i64 0,.int .i64 0]
abbrev z49:Array Value:=#[.string ByteArray.empty,.int .i64 0,.int .i64 0,.slice none 0 0]
def Rp47:Rel (List api_Span):=fun μ cs x=>∃(ad1:Option Addr) (cap2:Nat),cs=[.slice ad1 x.length cap2]∧ArrM μ 2 api_Span.cells ad1 cap2 x
theorem Rp47.mono:Rel.Mono Rp47:=by
  intro μ ν cs x hle h;obtain ⟨ad1,cap2,rfl,f0⟩:=h;exact ⟨ad1,cap2,rfl,f0.mono hle⟩
theorem Rp47.one:Rel.One 1 Rp47:=by
  intro μ cs x h;obtain ⟨ad1,cap2,rfl,f0⟩:=h
  all_goals rfl
def Rp155:Rel mosaic_used:=fun μ cs x=>∃(ad1:Option Addr) (cap2:Nat) (ad3:Option Addr) (cap4:Nat),cs=[.string x.Key.Name,.int .i64 x.Key.Tilt,.int .i64 x.Key.Time,.slice ad1 x.vals.length cap2,.slice ad3 x.bands.length cap4]∧ArrM μ 2 api_Span.cells ad1 cap2 x.vals∧ArrM μ 2 api_Span.cells ad3 cap4 x.bands
theorem Rp155.mono:Rel.Mono Rp155:=by
  intro μ ν cs x hle h;obtain ⟨ad1,cap2,ad3,cap4,rfl,f0,f1⟩:=h;exact ⟨ad1,cap2,ad3,cap4,rfl,f0.mono hle,f1.mono hle⟩
theorem Rp155.one:Rel.One 5 Rp155:=by
  intro μ cs x h;obtain ⟨ad1,cap2,ad3,cap4,rfl,f0,f1⟩:=h
  all_goals rfl
def Rp49:Rel mosaic_Message:=fun μ cs x=>∃(ad1:Option Addr) (cap2:Nat),cs=[.string x.Key.Name,.int .i64 x.Key.Tilt,.int .i64 x.Key.Time,.slice ad1 x.Vals.length cap2]∧ArrM μ 2 api_Span.cells ad1 cap2 x.Vals
theorem Rp49.mono:Rel.Mono Rp49:=by
  intro μ ν cs x hle h;obtain ⟨ad1,cap2,rfl,f0⟩:=h;exact ⟨ad1,cap2,rfl,f0.mono hle⟩
theorem Rp49.one:Rel.One 4 Rp49:=by
  intro μ cs x h;obtain ⟨ad1,cap2,rfl,f0⟩:=h
  all_goals rfl
def Rp52:Rel law11_Post:=fun μ cs x=>∃(ad1:Option Addr) (cap2:Nat),cs=[.int .u8 x.Radar,.int .u8 x.Tilt,.int .u16 x.Time,.slice ad1 x.Vals.length cap2,.int .u8 x.Wide]∧ArrM μ 1 (fK .u16) ad1 cap2 x.Vals
theorem Rp52.mono:Rel.Mono Rp52:=by
  intro μ ν cs x hle h;obtain ⟨ad1,cap2,rfl,f0⟩:=h;exact ⟨ad1,cap2,rfl,f0.mono hle⟩
def Ha (p0:ByteArray):Bool:=A3u p0
def or3 (x y z:Int):Int:=if x≠0 then x else if y≠0 then y else z
def Fm (x y:mosaic_Key):Int:=or3 (if x.Time<y.Time then -1 else if y.Time<x.Time then 1 else 0) (if Qm x.Name y.Name then -1 else if Q1 x.Name y.Name then 1 else 0) (if x.Tilt<y.Tilt then -1 else if y.Tilt<x.Tilt then 1 else 0)
def Ck (l:List mosaic_Key):List mosaic_Key:=T6 Fm l
def F2 (F:Nat) (p0:mosaic_Node):Option (List mosaic_Key):=if p0.kept.length≤1000000 then some (Ck (p0.kept.map (·.1))) else none
def Jk (F:Nat) (p0:List (List api_Span)) (p1:Int) (p2:List (List api_Span)):Option (List (List api_Span)):=if 0≤p1∧p1≤(p0.length:Int)∧p2.length=1∧p0.length≤1000000 then some (p0.take p1.toNat++p2++p0.drop p1.toNat) else none
def Na (time:Int) (p:mosaic_Key×List (List api_Span)):Bool:=decide (p.1.Time<time)
def Ke (time:Int) (l:List (mosaic_Key×List (List api_Span))):Nat:=((l.filter (Na time)).map fun p=>p.2.length).sum
def ndK:List mosaic_Key→Bool
  | []=>true
  | k::l=>!l.contains k&&ndK l
def F4 (F:Nat) (p0:mosaic_Node) (p1:Int):Option (Int×mosaic_Node):=if ndK (p0.kept.map (·.1))=true∧-1000000000000≤p0.count∧p0.count≤1000000000000∧Ke p1 p0.kept≤1000000000000 then some ((Ke p1 p0.kept:Int),{ p0 with horizon:=p1,kept:=p0.kept.filter (fun p=>!Na p1 p),count:=p0.count-Ke p1 p0.kept }) else none
def Ef (F:Nat) (p0:mosaic_Node):Option (List mosaic_Key):=if p0.kept.length≤1000000 then some ((Ck (p0.kept.map (·.1))).filter fun k=>!decide ((((lkM p0.kept k).getD []).length:Int)<2)) else none
def K6 (F:Nat) (p0:mosaic_Node):Option mosaic_Node:=some p0
def Aa (p0:Int) (p1:Int) (p2:Int):Bool :=
  bif (decide (p1≤p0)) then (decide (p0≤p2)) else false
def Cn (c2:Bool):Int :=
  bif c2 then (3) else (0)
def Bp (p0:api_Grid):Int :=
  bif (!(Aa p0.X (-1048576) 1048576)) then (Cn (!(Aa p0.X (-1048576) 1048576))) else (bif (!(Aa p0.Y (-1048576) 1048576)) then (Cn (!(Aa p0.Y (-1048576) 1048576))) else (bif (!(Aa p0.Size 1 10000)) then (Cn (!(Aa p0.Size 1 10000))) else (bif (!(Aa p0.Wide 1 64)) then (Cn (!(Aa p0.Wide 1 64))) else (Cn (!(Aa p0.High 1 64))))))
def Ct (p0:api_Span) (p1:Int) (p2:Int):Bool :=
  bif (bif (decide (p1≤p0.Lo)) then (decide (p0.Lo≤p0.Hi)) else false) then (decide (p0.Hi≤p2)) else false
def Bt (p0:Int) (p1:Int) (p2:Int):Bool :=
  bif (decide (p1≤p0)) then (decide (p0≤p2)) else false
def Lv (F:Nat) (p0:ByteArray):Option Bool :=
  (gd (((bif (!(sEq p0 (⟨#[]⟩:ByteArray))) then (decide (((p0.size:Nat):Int)≤12)) else false)==true&&true)) (A0s p0 (0:Int)) default).bind fun u1 =>
  (gd (((bif (bif (!(sEq p0 (⟨#[]⟩:ByteArray))) then (decide (((p0.size:Nat):Int)≤12)) else false) then (decide (u1≥97)) else false)==true&&true)) (A0s p0 (0:Int)) default).bind fun u2 =>
  some (bif (bif (bif (bif (!(sEq p0 (⟨#[]⟩:ByteArray))) then (decide (((p0.size:Nat):Int)≤12)) else false) then (decide (u1≥97)) else false) then (decide (u2≤122)) else false) then (!(Ha p0)) else false)
def D9 (c4:Bool):Option Int :=
  bif c4 then (some 3) else (some 0)
def E5 (p0:api_Site) (c3:Bool):Option Int :=
  bif c3 then (some 3) else (bif (!(Aa p0.Rose 1 90)) then (D9 (!(Aa p0.Rose 1 90))) else (bif (!(Aa p0.Gates 1 200)) then (D9 (!(Aa p0.Gates 1 200))) else (bif (!(Aa p0.Step 50 2000)) then (D9 (!(Aa p0.Step 50 2000))) else (D9 (!(Aa p0.Width 0 8))))))
def beam_CheckSite (F:Nat) (p0:api_Site):Option Int :=
  (Lv F p0.Name).bind fun y2 =>
  bif (!y2) then (some 10) else (bif (!(Aa p0.X (-1048576) 1048576)) then (E5 p0 (!(Aa p0.X (-1048576) 1048576))) else (bif (!(Aa p0.Y (-1048576) 1048576)) then (E5 p0 (!(Aa p0.Y (-1048576) 1048576))) else (E5 p0 (!(Aa p0.Z 0 20000)))))
def Kb (a0:(List (ByteArray×Bool))):Option Int :=
  some 0
def Ht (F:Nat) (p0:mosaic_Spec) (k2:((List (ByteArray×Bool))→Int→Option Int)) (a1:(List (ByteArray×Bool))) (a2:Int):Option Int :=
  bif (decide (a2<((p0.Radars.length:Nat):Int))) then ((Bj p0.Radars a2).bind fun a0 =>
  (beam_CheckSite F a0.Site).bind fun a3 =>
  bif (a3 != 0) then (some a3) else (bif ((lkM a1 a0.Site.Name).getD false) then (some 5) else (bif (!(Ct a0.Offset (-3600) 3600)) then (some 3) else ((ck (a2+1)).bind fun a4 =>
  k2 (upM a1 a0.Site.Name true) a4)))) else (Kb a1)
def Ew (F:Nat) (p0:mosaic_Spec):Nat→(List (ByteArray×Bool))→Int→Option Int
  | 0,_,_=>none
  | n+1,a0,a1=>Ht F p0 (Ew F p0 n) a0 a1
def Jh (F:Nat) (p0:mosaic_Spec):Option Int :=
  bif ((Bp p0.Grid) != 0) then (some (Bp p0.Grid)) else (bif (bif (!(Ct p0.Earth 1000000 100000000)) then true else (!(Bt p0.Age 1 86400))) then (some 3) else (bif (((p0.Radars.length:Nat):Int)==0) then (some 18) else (bif (decide (((p0.Radars.length:Nat):Int)>32)) then (some 9) else (Ew F p0 F ([]:List (ByteArray×Bool)) 0))))
def B7 (F:Nat) (p0:(List mosaic_Radar)):Option (List mosaic_Radar) :=
  (apd 88 ([]:List mosaic_Radar) p0).bind fun l5 =>
  some l5
def Lp (p0:mosaic_Spec) (y7:(List mosaic_Radar)) (a0:(List (ByteArray×mosaic_Radar))):Option (Except Int (mosaic_Node×Int)) :=
  some (.ok ((mosaic_Node.mk (mosaic_Spec.mk p0.Grid p0.Earth y7 p0.Age) a0 0 ([]:List (mosaic_Key×(List (List api_Span)))) 0 ([]:List (mosaic_where×(List api_Span)))),0))
def K3 (p0:mosaic_Spec) (y7:(List mosaic_Radar)) (k2:((List (ByteArray×mosaic_Radar))→Int→Option (Except Int (mosaic_Node×Int)))) (a1:(List (ByteArray×mosaic_Radar))) (a0:Int):Option (Except Int (mosaic_Node×Int)) :=
  bif (decide (a0<((y7.length:Nat):Int))) then ((Bj y7 a0).bind fun a2 =>
  (ck (a0+1)).bind fun a3 =>
  k2 (upM a1 a2.Site.Name a2) a3) else (Lp p0 y7 a1)
def Gq (p0:mosaic_Spec) (y7:(List mosaic_Radar)):Nat→(List (ByteArray×mosaic_Radar))→Int→Option (Except Int (mosaic_Node×Int))
  | 0,_,_=>none
  | n+1,a0,a1=>K3 p0 y7 (Gq p0 y7 n) a0 a1
def Ga (F:Nat) (p0:mosaic_Spec):Option (Except Int (mosaic_Node×Int)) :=
  (Jh F p0).bind fun y5 =>
  bif (y5 != 0) then (some (.error y5)) else ((B7 F p0.Radars).bind fun y7 =>
  Gq p0 y7 F ([]:List (ByteArray×mosaic_Radar)) 0)
def Ak (F:Nat) (p0:mosaic_Node):Option Bool :=
  some false
def Gs:Option Int :=
  some 0
def Et (p1:mosaic_Message) (k2:(Int→Option Int)) (a0:Int):Option Int :=
  bif (decide (a0<((p1.Vals.length:Nat):Int))) then ((Bj p1.Vals a0).bind fun a1 =>
  bif (!(Ct a1 0 1000000)) then (some 3) else ((ck (a0+1)).bind fun a2 =>
  k2 a2)) else (Gs)
def Cq (p1:mosaic_Message):Nat→Int→Option Int
  | 0,_=>none
  | n+1,a0=>Et p1 (Cq p1 n) a0
def Ek (F:Nat) (p0:mosaic_Node) (p1:mosaic_Message):Option Int :=
  bif (!((lkM p0.radars p1.Key.Name).isSome)) then (some 4) else (bif (bif (!(Bt p1.Key.Tilt 0 256)) then true else (!(Bt p1.Key.Time 0 4294967296))) then (some 3) else ((ck (p0.spec.Grid.Wide*p0.spec.Grid.High)).bind fun a0 =>
  bif (((p1.Vals.length:Nat):Int) != a0) then (some 11) else (Cq p1 F 0)))
def Ln:Option Int :=
  some 0
def K0 (p0:(List Int)) (k2:(Int→Option Int)) (a0:Int):Option Int :=
  bif (decide (a0<((p0.length:Nat):Int))) then ((Bj p0 a0).bind fun a1 =>
  bif (a1 != 0) then (some a1) else ((ck (a0+1)).bind fun a2 =>
  k2 a2)) else (Ln)
def Gn (p0:(List Int)):Nat→Int→Option Int
  | 0,_=>none
  | n+1,a0=>K0 p0 (Gn p0 n) a0
def Ku (F:Nat) (p0:(List Int)):Option Int :=
  Gn p0 F 0
def Cr (p0:Int):Bool :=
  p0 != p0
def Ae (p0:Int) (p1:Int):Int :=
  bif (Cr p0) then (bif (Cr p1) then (0) else (-1)) else (bif (Cr p1) then (1) else (bif (decide (p0<p1)) then (-1) else (bif (decide (p0>p1)) then (1) else (0))))
def Fu (F:Nat) (p0:api_Span) (p1:api_Span):Option Int :=
  (Ku F ([(Ae p0.Lo p1.Lo),(Ae p0.Hi p1.Hi)])).bind fun y4 =>
  some y4
def Am (p0:(List api_Span)) (p1:(List api_Span)):Option Int :=
  bif (decide (((p0.length:Nat):Int)<((p1.length:Nat):Int))) then (some (-1)) else (some 0)
def Al (F:Nat) (p0:(List api_Span)) (p1:(List api_Span)) (k2:(Int→Option Int)) (a0:Int):Option Int :=
  bif (decide (a0<((p0.length:Nat):Int))) then ((Bj p0 a0).bind fun a2 =>
  bif (decide (a0≥((p1.length:Nat):Int))) then (some 1) else ((Bj p1 a0).bind fun a3 =>
  (Fu F a2 a3).bind fun a1 =>
  bif (a1 != 0) then (some a1) else ((ck (a0+1)).bind fun a4 =>
  k2 a4))) else (Am p0 p1)
def Ad (F:Nat) (p0:(List api_Span)) (p1:(List api_Span)):Nat→Int→Option Int
  | 0,_=>none
  | n+1,a0=>Al F p0 p1 (Ad F p0 p1 n) a0
def Ap (F:Nat) (p0:(List api_Span)) (p1:(List api_Span)):Option Int :=
  Ad F p0 p1 F 0
def Ft (F:Nat) (p0:(List api_Span)) (p1:(List api_Span)):Option Int :=
  (Ap F p0 p1).bind fun y8 =>
  some y8
def Ar (F:Nat) (p0:(List (List api_Span))) (p1:(List api_Span)) (a0:Int):Option (Int×Bool) :=
  bif (decide (a0<((p0.length:Nat):Int))) then ((Bj p0 a0).bind fun a1 =>
  (Ft F a1 p1).bind fun a2 =>
  some (a0,a2==0)) else (some (a0,false))
def Aq (F:Nat) (p0:(List (List api_Span))) (p1:(List api_Span)) (k2:(Int→Int→Option (Int×Bool))) (a1:Int) (a0:Int):Option (Int×Bool) :=
  bif (decide (a0<a1)) then ((ck (a0+a1)).bind fun a4 =>
  (ck (Int.fdiv (IntKind.u64.wrap a4) 2)).bind fun a2 =>
  (Bj p0 a2).bind fun a3 =>
  (Ft F a3 p1).bind fun a6 =>
  bif (decide (a6<0)) then ((ck (a2+1)).bind fun a5 =>
  k2 a1 a5) else (k2 a2 a0)) else (Ar F p0 p1 a0)
def Ag (F:Nat) (p0:(List (List api_Span))) (p1:(List api_Span)):Nat→Int→Int→Option (Int×Bool)
  | 0,_,_=>none
  | n+1,a0,a1=>Aq F p0 p1 (Ag F p0 p1 n) a0 a1
def Av (F:Nat) (p0:(List (List api_Span))) (p1:(List api_Span)):Option (Int×Bool) :=
  Ag F p0 p1 F ((p0.length:Nat):Int) 0
def Bw (F:Nat) (p0:mosaic_Node) (p1:mosaic_Message):Option (Int×Bool) :=
  (Av F ((lkM p0.kept p1.Key).getD []) p1.Vals).bind fun a0 =>
  some (a0.1,a0.2)
def C1 (F:Nat) (p0:(List (List api_Span))):Option (List (List api_Span)) :=
  (apd 24 ([]:List (List api_Span)) p0).bind fun l7 =>
  some l7
def B2 (F:Nat) (p0:(List api_Span)):Option (List api_Span) :=
  (apd 16 ([]:List api_Span) p0).bind fun l5 =>
  some l5
def Dy (F:Nat) (p0:mosaic_Node) (p1:mosaic_Message):Option mosaic_Node :=
  (Bw F p0 p1).bind fun a1 =>
  (C1 F ((lkM p0.kept p1.Key).getD [])).bind fun a2 =>
  (B2 F p1.Vals).bind fun a3 =>
  (Jk F a2 a1.1 ([a3])).bind fun a4 =>
  (ck (p0.count+1)).bind fun a0 =>
  some (mosaic_Node.mk p0.spec p0.radars p0.horizon (upM p0.kept p1.Key a4) a0 p0.looks)
def Bd (F:Nat) (p0:mosaic_Node) (p1:mosaic_Message):Option (Bool×Int×mosaic_Node) :=
  (Ak F p0).bind fun a1 =>
  bif a1 then (some (false,1,p0)) else ((Ek F p0 p1).bind fun a0 =>
  bif (a0 != 0) then (some (false,a0,p0)) else (bif (decide (p1.Key.Time<p0.horizon)) then (some (false,17,p0)) else ((Bw F p0 p1).bind fun a2 =>
  bif a2.2 then (some (false,0,p0)) else (bif (decide (p0.count≥256)) then (some (false,13,p0)) else ((Dy F p0 p1).bind fun a3 =>
  some (true,0,a3))))))
def Ci (F:Nat) (p0:mosaic_Node) (p1:Int):Option Int :=
  (Ak F p0).bind fun a0 =>
  bif a0 then (some 1) else (bif (!(Bt p1 0 4294967296)) then (some 3) else (bif (decide (p1<p0.horizon)) then (some 17) else (some 0)))
def By (p0:ByteArray):Bool :=
  !(sEq p0 p0)
def Br (p0:ByteArray) (p1:ByteArray):Int :=
  bif (By p0) then (bif (By p1) then (0) else (-1)) else (bif (By p1) then (1) else (bif (Qm p0 p1) then (-1) else (bif (Q1 p0 p1) then (1) else (0))))
def Ec (F:Nat) (p0:Int):Option beam_slant :=
  (ck (p0*p0)).bind fun x2 =>
  (ck (262144-x2)).bind fun x3 =>
  (ck (1024*p0)).bind fun x4 =>
  (ck (p0*p0)).bind fun x5 =>
  (ck (262144+x5)).bind fun x6 =>
  some (beam_slant.mk x3 x4 x6)
def Gy (F:Nat) (p0:Int) (c0_:api_Site) (c1_:beam_slant):Option Int :=
  (ck (p0*c0_.Step)).bind fun x1 =>
  (ck (x1*c1_.c)).bind fun x2 =>
  (Mx x2 c1_.d).bind fun x3 =>
  some x3
def Mf (a0:Int):Option Int :=
  some a0
def Kk (F:Nat) (p0:api_Site) (p2:Int) (y2:beam_slant) (k2:(Int→Int→Option Int)) (a0:Int) (a2:Int):Option Int :=
  (ck (a2-a0)).bind fun a3 =>
  bif (decide (a3>1)) then ((ck (a0+a2)).bind fun a4 =>
  (Mx a4 2).bind fun a1 =>
  (Gy F a1 p0 y2).bind fun a6 =>
  (Gy F a1 p0 y2).bind fun a7 =>
  (ck (a6*a7)).bind fun a5 =>
  bif (decide (a5≤p2)) then (k2 a1 a2) else (k2 a0 a1)) else (Mf a0)
def Hc (F:Nat) (p0:api_Site) (p2:Int) (y2:beam_slant):Nat→Int→Int→Option Int
  | 0,_,_=>none
  | n+1,a0,a1=>Kk F p0 p2 y2 (Hc F p0 p2 y2 n) a0 a1
def Lx (F:Nat) (p0:api_Site) (p1:Int) (p2:Int):Option Int :=
  (Ec F p1).bind fun y2 =>
  (Gy F p0.Gates p0 y2).bind fun y4 =>
  (ck (y4*y4)).bind fun x5 =>
  bif (decide (p2≥x5)) then (some (-1)) else (Hc F p0 p2 y2 F 0 p0.Gates)
def Gx (F:Nat) (p0:Int) (p1:Int):Option beam_vector :=
  (E4 p1 p0).bind fun x2 =>
  (ck (2*p0)).bind fun x3 =>
  (ck (x3*x2)).bind fun x4 =>
  (ck (p0*p0)).bind fun x5 =>
  (ck (x2*x2)).bind fun x6 =>
  (ck (x5-x6)).bind fun x7 =>
  (ck (p0*p0)).bind fun x8 =>
  (ck (x2*x2)).bind fun x9 =>
  (ck (x8+x9)).bind fun a0 =>
  (Mx p1 p0).bind fun a1 =>
  bif (a1==0) then (some (beam_vector.mk x4 x7 a0)) else (bif (a1==1) then (bif (a1==0) then (some (beam_vector.mk x4 x7 a0)) else (some (beam_vector.mk x7 (IntKind.i64.wrap (0-x4)) a0))) else (bif (a1==0) then (some (beam_vector.mk x4 x7 a0)) else (bif (a1==2) then (bif (a1==0) then (some (beam_vector.mk x4 x7 a0)) else (some (beam_vector.mk (IntKind.i64.wrap (0-x4)) (IntKind.i64.wrap (0-x7)) a0))) else (bif (a1==0) then (some (beam_vector.mk x4 x7 a0)) else (bif (a1==3) then (bif (a1==0) then (some (beam_vector.mk x4 x7 a0)) else (some (beam_vector.mk (IntKind.i64.wrap (0-x7)) x4 a0))) else (bif (a1==0) then (some (beam_vector.mk x4 x7 a0)) else (none)))))))
def Gv (F:Nat) (p0:beam_vector) (p1:Int) (p2:Int):Option Bool :=
  (ck (p0.y*p1)).bind fun x2 =>
  (ck (p0.x*p2)).bind fun x3 =>
  some (decide (x2≥x3))
def Lh (p0:Int) (a0:Int) (a1:Int):Option Int :=
  (ck (a0*p0)).bind fun a2 =>
  (ck (a2+a1)).bind fun a3 =>
  some a3
def Lf (F:Nat) (p0:Int) (a3:Int) (a4:Int) (a5:Int) (k3:(Int→Int→Option Int)) (a0:Int) (a1:Int):Option Int :=
  (ck (a1-a0)).bind fun a6 =>
  bif (decide (a6>1)) then ((ck (a0+a1)).bind fun a7 =>
  (Mx a7 2).bind fun a2 =>
  (Gx F p0 a2).bind fun a8 =>
  (Gv F a8 a3 a4).bind fun a9 =>
  bif a9 then (k3 a2 a1) else (k3 a0 a2)) else (Lh p0 a5 a0)
def J2 (F:Nat) (p0:Int) (a0:Int) (a1:Int) (a2:Int):Nat→Int→Int→Option Int
  | 0,_,_=>none
  | n+1,a3,a4=>Lf F p0 a0 a1 a2 (J2 F p0 a0 a1 a2 n) a3 a4
def Lg (F:Nat) (p0:Int) (a0:Int) (a1:Int) (a2:Int):Option Int :=
  J2 F p0 a0 a1 a2 F 0 p0
def K5 (F:Nat) (p0:Int) (k4:(Int→Int→Int→Option Int)) (a0:Int) (a1:Int) (a2:Int):Option Int :=
  bif (bif (decide (a0<0)) then true else (decide (a1≤0))) then ((ck (a2+1)).bind fun a3 =>
  k4 (IntKind.i64.wrap (0-a1)) a0 a3) else (Lg F p0 a0 a1 a2)
def Ez (F:Nat) (p0:Int):Nat→Int→Int→Int→Option Int
  | 0,_,_,_=>none
  | n+1,a0,a1,a2=>K5 F p0 (Ez F p0 n) a0 a1 a2
def N0 (F:Nat) (p0:Int) (p1:Int) (p2:Int):Option Int :=
  Ez F p0 F p1 p2 0
def Lw (F:Nat) (p0:api_Site) (p1:Int) (p2:Int) (p3:Int):Option (Int×Int×Bool) :=
  (ck (p2-p0.X)).bind fun x2 =>
  (ck (p3-p0.Y)).bind fun x3 =>
  bif (bif (x2==0) then (x3==0) else false) then (some (0,0,true)) else ((ck (x2*x2)).bind fun x4 =>
  (ck (x3*x3)).bind fun x5 =>
  (ck (x4+x5)).bind fun x6 =>
  (Lx F p0 p1 x6).bind fun y7 =>
  bif (decide (y7<0)) then (some (0,0,false)) else ((N0 F p0.Rose x2 x3).bind fun y8 =>
  some (y8,y7,true)))
def Md (a0:(List Int)):Option ((List Int)×Int) :=
  some (a0,0)
def Kj (a1:Int) (k2:((List Int)→Int→Option ((List Int)×Int))) (a0:(List Int)):Option ((List Int)×Int) :=
  (ck (a1+1)).bind fun a2 =>
  k2 a0 a2
def Hb (a0:(List Int)) (a2:Int) (k4:((List Int)→Int→Option ((List Int)×Int))) (a3:Int):Option ((List Int)×Int) :=
  (apd 8 a0 ([a3])).bind fun a1 =>
  (ck (a2+1)).bind fun a4 =>
  k4 a1 a4
def Ki (F:Nat) (p0:api_Site) (p1:Int) (p2:api_Grid) (a3:Int) (k2:((List Int)→Int→Option ((List Int)×Int))) (k4:((List Int)→Int→Option ((List Int)×Int))) (a1:(List Int)) (a0:Int):Option ((List Int)×Int) :=
  bif (decide (a0<p2.Wide)) then ((ck (a0*p2.Size)).bind fun a4 =>
  (ck (p2.X+a4)).bind fun a5 =>
  (Mx p2.Size 2).bind fun a6 =>
  (ck (a5+a6)).bind fun a7 =>
  (ck (a3*p2.Size)).bind fun a8 =>
  (ck (p2.Y+a8)).bind fun a9 =>
  (Mx p2.Size 2).bind fun aA =>
  (ck (a9+aA)).bind fun aB =>
  (Lw F p0 p1 a7 aB).bind fun a2 =>
  bif a2.2.2 then ((ck (a2.1*p0.Gates)).bind fun aC =>
  (ck (aC+a2.2.1)).bind fun aD =>
  Hb a1 a0 k4 aD) else (Hb a1 a0 k4 (-1))) else (Kj a3 k2 a1)
def G1 (F:Nat) (p0:api_Site) (p1:Int) (p2:api_Grid) (a0:Int) (k2:((List Int)→Int→Option ((List Int)×Int))):Nat→(List Int)→Int→Option ((List Int)×Int)
  | 0,_,_=>none
  | n+1,a1,a2=>Ki F p0 p1 p2 a0 k2 (G1 F p0 p1 p2 a0 k2 n) a1 a2
def Kh (F:Nat) (p0:api_Site) (p1:Int) (p2:api_Grid) (k2:((List Int)→Int→Option ((List Int)×Int))) (a0:(List Int)) (a1:Int):Option ((List Int)×Int) :=
  bif (decide (a1<p2.High)) then (G1 F p0 p1 p2 a1 k2 F a0 0) else (Md a0)
def G0 (F:Nat) (p0:api_Site) (p1:Int) (p2:api_Grid):Nat→(List Int)→Int→Option ((List Int)×Int)
  | 0,_,_=>none
  | n+1,a0,a1=>Kh F p0 p1 p2 (G0 F p0 p1 p2 n) a0 a1
def Jp (F:Nat) (p0:api_Site) (p1:Int) (p2:api_Grid):Option ((List Int)×Int) :=
  (beam_CheckSite F p0).bind fun y3 =>
  bif (y3 != 0) then (some (([]:(List Int)),y3)) else (bif ((Bp p2) != 0) then (some (([]:(List Int)),(Bp p2))) else (bif (!(Aa p1 0 256)) then (some (([]:(List Int)),3)) else ((ck (p2.Wide*p2.High)).bind fun x4 =>
  (mk0 8 x4).bind fun c6 =>
  G0 F p0 p1 p2 F ([]:List Int) 0)))
def F9 (p0:api_Span):Bool :=
  bif (bif (decide (1000000≤p0.Lo)) then (decide (p0.Lo≤p0.Hi)) else false) then (decide (p0.Hi≤100000000)) else false
def Jq (F:Nat) (p0:Int) (p1:Int):Option Int :=
  (Mx p0 p1).bind fun x1 =>
  (ck (x1*p1)).bind fun x2 =>
  bif (decide (x2>p0)) then ((ck (x1-1)).bind fun x3 =>
  some x3) else (some x1)
def Mg (F:Nat) (p0:Int) (p1:Int):Option Int :=
  (Mx p0 p1).bind fun x1 =>
  (ck (x1*p1)).bind fun x2 =>
  bif (decide (x2<p0)) then ((ck (x1+1)).bind fun x3 =>
  some x3) else (some x1)
def Fk (F:Nat) (p0:api_Site) (p1:Int) (p2:Int):Option Int :=
  (Ec F p1).bind fun y2 =>
  (ck (2*p2)).bind fun x4 =>
  (ck (x4+1)).bind fun x5 =>
  (ck (x5*p0.Step)).bind fun x6 =>
  (ck (x6*y2.c)).bind fun x7 =>
  (ck (2*y2.d)).bind fun x8 =>
  (Jq F x7 x8).bind fun y9 =>
  some y9
def Gh (F:Nat) (p0:api_Site) (p1:Int) (p2:Int) (p3:Int):Option Int :=
  (Ec F p1).bind fun y2 =>
  (Fk F p0 p1 p2).bind fun y5 =>
  (ck (2*p2)).bind fun x6 =>
  (ck (x6+1)).bind fun x7 =>
  (ck (x7*p0.Step)).bind fun x8 =>
  (ck (x8*y2.s)).bind fun x9 =>
  (ck (2*y2.d)).bind fun a0 =>
  (ck (y5*y5)).bind fun a1 =>
  (ck (2*p3)).bind fun a2 =>
  (Jq F x9 a0).bind fun a5 =>
  (ck (p0.Z+a5)).bind fun a3 =>
  (Jq F a1 a2).bind fun a6 =>
  (ck (a3+a6)).bind fun a4 =>
  some a4
def Fl (F:Nat) (p0:api_Site) (p1:Int) (p2:Int):Option Int :=
  (Ec F p1).bind fun y2 =>
  (ck (2*p2)).bind fun x4 =>
  (ck (x4+1)).bind fun x5 =>
  (ck (x5*p0.Step)).bind fun x6 =>
  (ck (x6*y2.c)).bind fun x7 =>
  (ck (2*y2.d)).bind fun x8 =>
  (Mg F x7 x8).bind fun y9 =>
  some y9
def Gi (F:Nat) (p0:api_Site) (p1:Int) (p2:Int) (p3:Int):Option Int :=
  (Ec F p1).bind fun y2 =>
  (Fl F p0 p1 p2).bind fun y5 =>
  (ck (2*p2)).bind fun x6 =>
  (ck (x6+1)).bind fun x7 =>
  (ck (x7*p0.Step)).bind fun x8 =>
  (ck (x8*y2.s)).bind fun x9 =>
  (ck (2*y2.d)).bind fun a0 =>
  (ck (y5*y5)).bind fun a1 =>
  (ck (2*p3)).bind fun a2 =>
  (Mg F x9 a0).bind fun a5 =>
  (ck (p0.Z+a5)).bind fun a3 =>
  (Mg F a1 a2).bind fun a6 =>
  (ck (a3+a6)).bind fun a4 =>
  some a4
def Lu (F:Nat) (p0:api_Site) (p1:Int) (p2:api_Span) (p3:Int):Option (api_Span×Int) :=
  (beam_CheckSite F p0).bind fun y4 =>
  bif (y4 != 0) then (some ((api_Span.mk 0 0),y4)) else ((gd (((bif (!(Aa p1 0 256)) then true else (!(F9 p2)))==false&&true)) (ck (p0.Gates-1)) 0).bind fun x5 =>
  bif (bif (bif (!(Aa p1 0 256)) then true else (!(F9 p2))) then true else (!(Aa p3 0 x5))) then (some ((api_Span.mk 0 0),3)) else ((ck (p1-p0.Width)).bind fun x6 =>
  (ck (p1+p0.Width)).bind fun x7 =>
  (Gh F p0 x6 p3 p2.Hi).bind fun y9 =>
  (Gi F p0 x7 p3 p2.Lo).bind fun a0 =>
  some ((api_Span.mk y9 a0),0)))
def F7 (p0:mosaic_Node) (p1:mosaic_Key) (a0:(List api_Span)):Option ((List api_Span)×(List (mosaic_where×(List api_Span)))) :=
  some (a0,(upM p0.looks (mosaic_where.mk p1.Name p1.Tilt) a0))
def D4 (a0:(List api_Span)) (a2:Int) (k2:((List api_Span)→Int→Option ((List api_Span)×(List (mosaic_where×(List api_Span)))))) (a3:Int) (a4:Int):Option ((List api_Span)×(List (mosaic_where×(List api_Span)))) :=
  (apd 16 a0 ([(api_Span.mk a3 a4)])).bind fun a1 =>
  (ck (a2+1)).bind fun a5 =>
  k2 a1 a5
def F6 (F:Nat) (p0:mosaic_Node) (p1:mosaic_Key) (a4:((List Int)×Int)) (k2:((List api_Span)→Int→Option ((List api_Span)×(List (mosaic_where×(List api_Span)))))) (a1:(List api_Span)) (a0:Int):Option ((List api_Span)×(List (mosaic_where×(List api_Span)))) :=
  bif (decide (a0<((a4.1.length:Nat):Int))) then ((Bj a4.1 a0).bind fun a2 =>
  bif (decide (a2≥0)) then ((E4 a2 ((((lkM p0.radars p1.Name).getD (mosaic_Radar.mk (api_Site.mk ByteArray.empty 0 0 0 0 0 0 0) (api_Span.mk 0 0))).Site).Gates)).bind fun a5 =>
  (Lu F (api_Site.mk ((((lkM p0.radars p1.Name).getD (mosaic_Radar.mk (api_Site.mk ByteArray.empty 0 0 0 0 0 0 0) (api_Span.mk 0 0))).Site).Name) ((((lkM p0.radars p1.Name).getD (mosaic_Radar.mk (api_Site.mk ByteArray.empty 0 0 0 0 0 0 0) (api_Span.mk 0 0))).Site).X) ((((lkM p0.radars p1.Name).getD (mosaic_Radar.mk (api_Site.mk ByteArray.empty 0 0 0 0 0 0 0) (api_Span.mk 0 0))).Site).Y) ((((lkM p0.radars p1.Name).getD (mosaic_Radar.mk (api_Site.mk ByteArray.empty 0 0 0 0 0 0 0) (api_Span.mk 0 0))).Site).Z) ((((lkM p0.radars p1.Name).getD (mosaic_Radar.mk (api_Site.mk ByteArray.empty 0 0 0 0 0 0 0) (api_Span.mk 0 0))).Site).Rose) ((((lkM p0.radars p1.Name).getD (mosaic_Radar.mk (api_Site.mk ByteArray.empty 0 0 0 0 0 0 0) (api_Span.mk 0 0))).Site).Gates) ((((lkM p0.radars p1.Name).getD (mosaic_Radar.mk (api_Site.mk ByteArray.empty 0 0 0 0 0 0 0) (api_Span.mk 0 0))).Site).Step) ((((lkM p0.radars p1.Name).getD (mosaic_Radar.mk (api_Site.mk ByteArray.empty 0 0 0 0 0 0 0) (api_Span.mk 0 0))).Site).Width)) p1.Tilt p0.spec.Earth a5).bind fun a3 =>
  D4 a1 a0 k2 a3.1.Lo a3.1.Hi) else (D4 a1 a0 k2 1 0)) else (F7 p0 p1 a1)
def Cj (F:Nat) (p0:mosaic_Node) (p1:mosaic_Key) (a0:((List Int)×Int)):Nat→(List api_Span)→Int→Option ((List api_Span)×(List (mosaic_where×(List api_Span))))
  | 0,_,_=>none
  | n+1,a1,a2=>F6 F p0 p1 a0 (Cj F p0 p1 a0 n) a1 a2
def F5 (F:Nat) (p0:mosaic_Node) (p1:mosaic_Key):Option ((List api_Span)×(List (mosaic_where×(List api_Span)))) :=
  bif ((lkM p0.looks (mosaic_where.mk p1.Name p1.Tilt)).isSome) then (some (((lkM p0.looks (mosaic_where.mk p1.Name p1.Tilt)).getD []),p0.looks)) else ((Jp F (api_Site.mk ((((lkM p0.radars p1.Name).getD (mosaic_Radar.mk (api_Site.mk ByteArray.empty 0 0 0 0 0 0 0) (api_Span.mk 0 0))).Site).Name) ((((lkM p0.radars p1.Name).getD (mosaic_Radar.mk (api_Site.mk ByteArray.empty 0 0 0 0 0 0 0) (api_Span.mk 0 0))).Site).X) ((((lkM p0.radars p1.Name).getD (mosaic_Radar.mk (api_Site.mk ByteArray.empty 0 0 0 0 0 0 0) (api_Span.mk 0 0))).Site).Y) ((((lkM p0.radars p1.Name).getD (mosaic_Radar.mk (api_Site.mk ByteArray.empty 0 0 0 0 0 0 0) (api_Span.mk 0 0))).Site).Z) ((((lkM p0.radars p1.Name).getD (mosaic_Radar.mk (api_Site.mk ByteArray.empty 0 0 0 0 0 0 0) (api_Span.mk 0 0))).Site).Rose) ((((lkM p0.radars p1.Name).getD (mosaic_Radar.mk (api_Site.mk ByteArray.empty 0 0 0 0 0 0 0) (api_Span.mk 0 0))).Site).Gates) ((((lkM p0.radars p1.Name).getD (mosaic_Radar.mk (api_Site.mk ByteArray.empty 0 0 0 0 0 0 0) (api_Span.mk 0 0))).Site).Step) ((((lkM p0.radars p1.Name).getD (mosaic_Radar.mk (api_Site.mk ByteArray.empty 0 0 0 0 0 0 0) (api_Span.mk 0 0))).Site).Width)) p1.Tilt p0.spec.Grid).bind fun a0 =>
  Cj F p0 p1 a0 F ([]) 0)
def Ge (a0:(List (mosaic_where×(List api_Span)))) (a1:(List mosaic_used)):Option ((List mosaic_used)×(List (mosaic_where×(List api_Span)))) :=
  some (a1,a0)
def Dw (a2:Int) (k3:((List (mosaic_where×(List api_Span)))→Int→(List mosaic_used)→Option ((List mosaic_used)×(List (mosaic_where×(List api_Span)))))) (a0:(List (mosaic_where×(List api_Span)))) (a1:(List mosaic_used)):Option ((List mosaic_used)×(List (mosaic_where×(List api_Span)))) :=
  (ck (a2+1)).bind fun a3 =>
  k3 a0 a3 a1
def Gc (F:Nat) (p0:mosaic_Node) (a4:(List (mosaic_where×mosaic_Key))) (a5:(List mosaic_Key)) (k3:((List (mosaic_where×(List api_Span)))→Int→(List mosaic_used)→Option ((List mosaic_used)×(List (mosaic_where×(List api_Span)))))) (a2:(List (mosaic_where×(List api_Span)))) (a1:Int) (a3:(List mosaic_used)):Option ((List mosaic_used)×(List (mosaic_where×(List api_Span)))) :=
  bif (decide (a1<((a5.length:Nat):Int))) then ((Bj a5 a1).bind fun a0 =>
  bif (((((lkM a4 (mosaic_where.mk a0.Name a0.Tilt)).getD (mosaic_Key.mk ByteArray.empty 0 0)).Name)==a0.Name)&&(((((lkM a4 (mosaic_where.mk a0.Name a0.Tilt)).getD (mosaic_Key.mk ByteArray.empty 0 0)).Tilt:Int)==a0.Tilt)&&(((((lkM a4 (mosaic_where.mk a0.Name a0.Tilt)).getD (mosaic_Key.mk ByteArray.empty 0 0)).Time:Int)==a0.Time)&&true))) then ((Bj ((lkM p0.kept a0).getD []) 0).bind fun a8 =>
  (F5 F (mosaic_Node.mk p0.spec p0.radars p0.horizon p0.kept p0.count a2) a0).bind fun a6 =>
  (apd 80 a3 ([(mosaic_used.mk a0 a8 a6.1)])).bind fun a7 =>
  Dw a1 k3 a6.2 a7) else (Dw a1 k3 a2 a3)) else (Ge a2 a3)
def Cy (F:Nat) (p0:mosaic_Node) (a0:(List (mosaic_where×mosaic_Key))) (a1:(List mosaic_Key)):Nat→(List (mosaic_where×(List api_Span)))→Int→(List mosaic_used)→Option ((List mosaic_used)×(List (mosaic_where×(List api_Span))))
  | 0,_,_,_=>none
  | n+1,a2,a4,a3=>Gc F p0 a0 a1 (Cy F p0 a0 a1 n) a2 a4 a3
def Dv (F:Nat) (p0:mosaic_Node) (a0:(List (mosaic_where×mosaic_Key))):Option ((List mosaic_used)×(List (mosaic_where×(List api_Span)))) :=
  (F2 F p0).bind fun a1 =>
  Cy F p0 a0 a1 F p0.looks 0 ([])
def Dx (a1:Int) (k5:((List (mosaic_where×mosaic_Key))→Int→Option ((List mosaic_used)×(List (mosaic_where×(List api_Span)))))) (a0:(List (mosaic_where×mosaic_Key))):Option ((List mosaic_used)×(List (mosaic_where×(List api_Span)))) :=
  (ck (a1+1)).bind fun a2 =>
  k5 a0 a2
def Gd (F:Nat) (p0:mosaic_Node) (p1:Int) (a4:(List mosaic_Key)) (k5:((List (mosaic_where×mosaic_Key))→Int→Option ((List mosaic_used)×(List (mosaic_where×(List api_Span)))))) (a2:(List (mosaic_where×mosaic_Key))) (a1:Int):Option ((List mosaic_used)×(List (mosaic_where×(List api_Span)))) :=
  bif (decide (a1<((a4.length:Nat):Int))) then ((Bj a4 a1).bind fun a0 =>
  (gd (((((((lkM p0.kept a0).getD []).length:Nat):Int)==1)==true&&true)) (ck (a0.Time+((((lkM p0.radars a0.Name).getD (mosaic_Radar.mk (api_Site.mk ByteArray.empty 0 0 0 0 0 0 0) (api_Span.mk 0 0))).Offset).Hi))) 0).bind fun a3 =>
  (gd (((bif (((((lkM p0.kept a0).getD []).length:Nat):Int)==1) then (decide (a3≤p1)) else false)==true&&true)) (ck (p1-a0.Time)) 0).bind fun a5 =>
  (gd (((bif (((((lkM p0.kept a0).getD []).length:Nat):Int)==1) then (decide (a3≤p1)) else false)==true&&true)) (ck (a5-((((lkM p0.radars a0.Name).getD (mosaic_Radar.mk (api_Site.mk ByteArray.empty 0 0 0 0 0 0 0) (api_Span.mk 0 0))).Offset).Lo))) 0).bind fun a6 =>
  bif (bif (bif (((((lkM p0.kept a0).getD []).length:Nat):Int)==1) then (decide (a3≤p1)) else false) then (decide (a6≤p0.spec.Age)) else false) then (Dx a1 k5 (upM a2 (mosaic_where.mk a0.Name a0.Tilt) a0)) else (Dx a1 k5 a2)) else (Dv F p0 a2)
def Cz (F:Nat) (p0:mosaic_Node) (p1:Int) (a0:(List mosaic_Key)):Nat→(List (mosaic_where×mosaic_Key))→Int→Option ((List mosaic_used)×(List (mosaic_where×(List api_Span))))
  | 0,_,_=>none
  | n+1,a1,a2=>Gd F p0 p1 a0 (Cz F p0 p1 a0 n) a1 a2
def Ey (F:Nat) (p0:mosaic_Node) (p1:Int):Option ((List mosaic_used)×(List (mosaic_where×(List api_Span)))) :=
  (F2 F p0).bind fun a0 =>
  Cz F p0 p1 a0 F ([]:List (mosaic_where×mosaic_Key)) 0
def Ao (p0:api_Span):Bool :=
  decide (p0.Lo≤p0.Hi)
def Fe (a1:((List mosaic_used)×(List (mosaic_where×(List api_Span))))) (a0:(List mosaic_Pixel)):Option ((List mosaic_Pixel)×Int×(List (mosaic_where×(List api_Span)))) :=
  some (a0,0,a1.2)
def Ff (a1:Int) (k2:(Int→(List mosaic_Pixel)→Option ((List mosaic_Pixel)×Int×(List (mosaic_where×(List api_Span)))))) (a0:(List mosaic_Pixel)):Option ((List mosaic_Pixel)×Int×(List (mosaic_where×(List api_Span)))) :=
  (ck (a1+1)).bind fun a2 =>
  k2 a2 a0
def De (a3:Int) (a0:(List mosaic_Pixel)) (k2:(Int→(List mosaic_Pixel)→Option ((List mosaic_Pixel)×Int×(List (mosaic_where×(List api_Span)))))) (a4:Int) (a5:Int) (a2:ByteArray) (a6:Int) (a7:Int):Option ((List mosaic_Pixel)×Int×(List (mosaic_where×(List api_Span)))) :=
  (apd 48 a0 ([(mosaic_Pixel.mk (api_Span.mk a4 a5) (mosaic_Key.mk a2 a6 a7))])).bind fun a1 =>
  Ff a3 k2 a1
def Cl (a5:((List mosaic_used)×(List (mosaic_where×(List api_Span))))) (a1:Int) (a2:(List mosaic_Pixel)) (k2:(Int→(List mosaic_Pixel)→Option ((List mosaic_Pixel)×Int×(List (mosaic_where×(List api_Span)))))) (a4:Int):Option ((List mosaic_Pixel)×Int×(List (mosaic_where×(List api_Span)))) :=
  bif (decide (a4<0)) then (De a1 a2 k2 0 1000000 ByteArray.empty 0 0) else ((Bj a5.1 a4).bind fun a0 =>
  (Bj a0.vals a1).bind fun a3 =>
  De a1 a2 k2 a3.Lo a3.Hi a0.Key.Name a0.Key.Tilt a0.Key.Time)
def Ca (a0:Int) (k6:(Int→Int→Option ((List mosaic_Pixel)×Int×(List (mosaic_where×(List api_Span)))))) (a1:Int):Option ((List mosaic_Pixel)×Int×(List (mosaic_where×(List api_Span)))) :=
  (ck (a0+1)).bind fun a2 =>
  k6 a1 a2
def Fc (F:Nat) (a5:((List mosaic_used)×(List (mosaic_where×(List api_Span))))) (a2:Int) (a6:(List mosaic_Pixel)) (k2:(Int→(List mosaic_Pixel)→Option ((List mosaic_Pixel)×Int×(List (mosaic_where×(List api_Span)))))) (k6:(Int→Int→Option ((List mosaic_Pixel)×Int×(List (mosaic_where×(List api_Span)))))) (a4:Int) (a0:Int):Option ((List mosaic_Pixel)×Int×(List (mosaic_where×(List api_Span)))) :=
  bif (decide (a0<((a5.1.length:Nat):Int))) then ((Bj a5.1 a0).bind fun a1 =>
  (Bj a1.bands a2).bind fun a7 =>
  bif (!(Ao a7)) then (Ca a0 k6 a4) else (bif (decide (a4<0)) then (Ca a0 k6 a0) else ((Bj a5.1 a4).bind fun a3 =>
  (Bj a1.bands a2).bind fun a8 =>
  (Bj a3.bands a2).bind fun a9 =>
  (Bj a1.bands a2).bind fun aA =>
  (Bj a3.bands a2).bind fun aB =>
  (Ku F ([(Ae a8.Hi a9.Hi),(Ae aA.Lo aB.Lo),(Ae a3.Key.Time a1.Key.Time),(Br a1.Key.Name a3.Key.Name),(Ae a1.Key.Tilt a3.Key.Tilt)])).bind fun aC =>
  bif (decide (aC<0)) then (Ca a0 k6 a0) else (Ca a0 k6 a4)))) else (Cl a5 a2 a6 k2 a4)
def Cb (F:Nat) (a2:((List mosaic_used)×(List (mosaic_where×(List api_Span))))) (a1:Int) (a0:(List mosaic_Pixel)) (k2:(Int→(List mosaic_Pixel)→Option ((List mosaic_Pixel)×Int×(List (mosaic_where×(List api_Span)))))):Nat→Int→Int→Option ((List mosaic_Pixel)×Int×(List (mosaic_where×(List api_Span))))
  | 0,_,_=>none
  | n+1,a3,a4=>Fc F a2 a1 a0 k2 (Cb F a2 a1 a0 k2 n) a3 a4
def Fb (F:Nat) (a2:((List mosaic_used)×(List (mosaic_where×(List api_Span))))) (a3:Int) (k2:(Int→(List mosaic_Pixel)→Option ((List mosaic_Pixel)×Int×(List (mosaic_where×(List api_Span)))))) (a1:Int) (a0:(List mosaic_Pixel)):Option ((List mosaic_Pixel)×Int×(List (mosaic_where×(List api_Span)))) :=
  bif (decide (a1<a3)) then (Cb F a2 a1 a0 k2 F (-1) 0) else (Fe a2 a0)
def Bo (F:Nat) (a1:((List mosaic_used)×(List (mosaic_where×(List api_Span))))) (a0:Int):Nat→Int→(List mosaic_Pixel)→Option ((List mosaic_Pixel)×Int×(List (mosaic_where×(List api_Span))))
  | 0,_,_=>none
  | n+1,a3,a2=>Fb F a1 a0 (Bo F a1 a0 n) a3 a2
def Bh (F:Nat) (p0:mosaic_Node) (p1:Int):Option ((List mosaic_Pixel)×Int×(List (mosaic_where×(List api_Span)))) :=
  (Ci F p0 p1).bind fun a0 =>
  bif (a0 != 0) then (some (([]:(List mosaic_Pixel)),a0,p0.looks)) else ((Ey F p0 p1).bind fun a2 =>
  (ck (p0.spec.Grid.Wide*p0.spec.Grid.High)).bind fun a1 =>
  Bo F a2 a1 F 0 ([]))
def Ac (p0:Int):api_Span :=
  (api_Span.mk p0 p0)
def law11_S:mosaic_Spec :=
  (mosaic_Spec.mk (api_Grid.mk (-2000) (-1000) 1000 4 2) (Ac 8000000) ([(mosaic_Radar.mk (api_Site.mk (⟨#[97]⟩:ByteArray) (-1500) (-500) 100 1 3 1000 0) (api_Span.mk 0 0)),(mosaic_Radar.mk (api_Site.mk (⟨#[98]⟩:ByteArray) 1500 (-500) 100 1 3 1000 0) (api_Span.mk 5 10))]) 600)
def Jv (p0:ByteArray) (p1:Int) (a0:(List api_Span)):Option mosaic_Message :=
  some (mosaic_Message.mk (mosaic_Key.mk p0 0 p1) a0)
def Ju (p0:ByteArray) (p1:Int) (p2:Int) (k2:((List api_Span)→Int→Option mosaic_Message)) (a0:(List api_Span)) (a1:Int):Option mosaic_Message :=
  bif (decide (a1<8)) then ((apd 16 a0 ([(Ac p2)])).bind fun a2 =>
  (ck (a1+1)).bind fun a3 =>
  k2 a2 a3) else (Jv p0 p1 a0)
def Hf (p0:ByteArray) (p1:Int) (p2:Int):Nat→(List api_Span)→Int→Option mosaic_Message
  | 0,_,_=>none
  | n+1,a0,a1=>Ju p0 p1 p2 (Hf p0 p1 p2 n) a0 a1
def K2 (F:Nat) (p0:ByteArray) (p1:Int) (p2:Int):Option mosaic_Message :=
  Hf p0 p1 p2 F ([]) 0
def law11_works (F:Nat):Option Bool :=
  (Ga F (mosaic_Spec.mk (api_Grid.mk law11_S.Grid.X law11_S.Grid.Y law11_S.Grid.Size law11_S.Grid.Wide law11_S.Grid.High) (api_Span.mk law11_S.Earth.Lo law11_S.Earth.Hi) law11_S.Radars law11_S.Age)).bind fun y7 =>
  exc y7 (fun a7=>bif (a7 != 0) then (some false) else (none)) (fun a2=>bif (a2.2 != 0) then (some false) else ((K2 F (⟨#[97]⟩:ByteArray) 100 5).bind fun a8 =>
  (Bd F (mosaic_Node.mk (mosaic_Spec.mk (api_Grid.mk a2.1.spec.Grid.X a2.1.spec.Grid.Y a2.1.spec.Grid.Size a2.1.spec.Grid.Wide a2.1.spec.Grid.High) (api_Span.mk a2.1.spec.Earth.Lo a2.1.spec.Earth.Hi) a2.1.spec.Radars a2.1.spec.Age) a2.1.radars a2.1.horizon a2.1.kept a2.1.count a2.1.looks) a8).bind fun a0 =>
  (K2 F (⟨#[98]⟩:ByteArray) 100 7).bind fun a9 =>
  (Bd F (mosaic_Node.mk (mosaic_Spec.mk (api_Grid.mk a0.2.2.spec.Grid.X a0.2.2.spec.Grid.Y a0.2.2.spec.Grid.Size a0.2.2.spec.Grid.Wide a0.2.2.spec.Grid.High) (api_Span.mk a0.2.2.spec.Earth.Lo a0.2.2.spec.Earth.Hi) a0.2.2.spec.Radars a0.2.2.spec.Age) a0.2.2.radars a0.2.2.horizon a0.2.2.kept a0.2.2.count a0.2.2.looks) a9).bind fun a1 =>
  (Bh F (mosaic_Node.mk (mosaic_Spec.mk (api_Grid.mk a1.2.2.spec.Grid.X a1.2.2.spec.Grid.Y a1.2.2.spec.Grid.Size a1.2.2.spec.Grid.Wide a1.2.2.spec.Grid.High) (api_Span.mk a1.2.2.spec.Earth.Lo a1.2.2.spec.Earth.Hi) a1.2.2.spec.Radars a1.2.2.spec.Age) a1.2.2.radars a1.2.2.horizon a1.2.2.kept a1.2.2.count a1.2.2.looks) 110).bind fun a3 =>
  (gd (((bif (bif (bif (bif (bif a0.1 then a1.1 else false) then (a0.2.1==0) else false) then (a1.2.1==0) else false) then (a3.2.1==0) else false) then (((a3.1.length:Nat):Int)==8) else false)==true&&true)) (Bj a3.1 0) default).bind fun a4 =>
  (gd (((bif (bif (bif (bif (bif (bif a0.1 then a1.1 else false) then (a0.2.1==0) else false) then (a1.2.1==0) else false) then (a3.2.1==0) else false) then (((a3.1.length:Nat):Int)==8) else false) then (((a4.Value_.Lo:Int)==(Ac 5).Lo)&&(((a4.Value_.Hi:Int)==(Ac 5).Hi)&&true)) else false)==true&&true)) (Bj a3.1 2) default).bind fun a5 =>
  (gd (((bif (bif (bif (bif (bif (bif (bif a0.1 then a1.1 else false) then (a0.2.1==0) else false) then (a1.2.1==0) else false) then (a3.2.1==0) else false) then (((a3.1.length:Nat):Int)==8) else false) then (((a4.Value_.Lo:Int)==(Ac 5).Lo)&&(((a4.Value_.Hi:Int)==(Ac 5).Hi)&&true)) else false) then ((a5.Key.Name==(⟨#[97]⟩:ByteArray))&&(((a5.Key.Tilt:Int)==0)&&(((a5.Key.Time:Int)==100)&&true))) else false)==true&&true)) (Bj a3.1 3) default).bind fun a6 =>
  some (bif (bif (bif (bif (bif (bif (bif (bif a0.1 then a1.1 else false) then (a0.2.1==0) else false) then (a1.2.1==0) else false) then (a3.2.1==0) else false) then (((a3.1.length:Nat):Int)==8) else false) then (((a4.Value_.Lo:Int)==(Ac 5).Lo)&&(((a4.Value_.Hi:Int)==(Ac 5).Hi)&&true)) else false) then ((a5.Key.Name==(⟨#[97]⟩:ByteArray))&&(((a5.Key.Tilt:Int)==0)&&(((a5.Key.Time:Int)==100)&&true))) else false) then ((((a6.Value_.Lo:Int)==(Ac 7).Lo)&&(((a6.Value_.Hi:Int)==(Ac 7).Hi)&&true))&&(((a6.Key.Name==(⟨#[98]⟩:ByteArray))&&(((a6.Key.Tilt:Int)==0)&&(((a6.Key.Time:Int)==100)&&true)))&&true)) else false)))
def Jc (x6:Int) (x9:Int) (a1:Int) (a0:(List mosaic_Radar)):Option mosaic_Spec :=
  some (mosaic_Spec.mk (api_Grid.mk (-2000) (-2000) 1000 x6 x9) (api_Span.mk 8000000 9000000) a0 a1)
def F1 (p0:law11_Net) (x6:Int) (x9:Int) (aB:Int) (k2:((List mosaic_Radar)→Int→Option mosaic_Spec)) (a1:(List mosaic_Radar)) (a0:Int):Option mosaic_Spec :=
  (ck p0.Count).bind fun aC =>
  (E4 aC 3).bind fun aD =>
  bif (decide (a0≤aD)) then (bif (a0==0) then ((ck p0.Stations.1.Lo).bind fun aE =>
  (E4 aE 601).bind fun aF =>
  (ck (aF-300)).bind fun a2 =>
  (Bj ([(⟨#[97]⟩:ByteArray),(⟨#[98]⟩:ByteArray),(⟨#[99]⟩:ByteArray)]) a0).bind fun a8 =>
  (ck p0.Stations.1.X).bind fun aG =>
  (E4 aG 4000).bind fun aH =>
  (ck p0.Stations.1.Y).bind fun aI =>
  (E4 aI 4000).bind fun aJ =>
  (ck p0.Stations.1.Z).bind fun aK =>
  (E4 aK 1000).bind fun aL =>
  (ck p0.Stations.1.Rose).bind fun aM =>
  (E4 aM 3).bind fun aN =>
  (ck (1+aN)).bind fun aO =>
  (ck p0.Stations.1.Gates).bind fun aP =>
  (E4 aP 5).bind fun aQ =>
  (ck (1+aQ)).bind fun aR =>
  (ck p0.Stations.1.Width).bind fun aS =>
  (E4 aS 3).bind fun aT =>
  (ck p0.Stations.1.Hi).bind fun aU =>
  (E4 aU 300).bind fun aV =>
  (ck (a2+aV)).bind fun aW =>
  (apd 88 a1 ([(mosaic_Radar.mk (api_Site.mk a8 aH aJ aL aO aR 1000 aT) (api_Span.mk a2 aW))])).bind fun a5 =>
  (ck (a0+1)).bind fun aX =>
  k2 a5 aX) else (bif (a0==1) then ((ck p0.Stations.2.1.Lo).bind fun aY =>
  (E4 aY 601).bind fun aZ =>
  (ck (aZ-300)).bind fun a3 =>
  (Bj ([(⟨#[97]⟩:ByteArray),(⟨#[98]⟩:ByteArray),(⟨#[99]⟩:ByteArray)]) a0).bind fun a9 =>
  (ck p0.Stations.2.1.X).bind fun b0 =>
  (E4 b0 4000).bind fun b1 =>
  (ck p0.Stations.2.1.Y).bind fun b2 =>
  (E4 b2 4000).bind fun b3 =>
  (ck p0.Stations.2.1.Z).bind fun b4 =>
  (E4 b4 1000).bind fun b5 =>
  (ck p0.Stations.2.1.Rose).bind fun b6 =>
  (E4 b6 3).bind fun b7 =>
  (ck (1+b7)).bind fun b8 =>
  (ck p0.Stations.2.1.Gates).bind fun b9 =>
  (E4 b9 5).bind fun bA =>
  (ck (1+bA)).bind fun bB =>
  (ck p0.Stations.2.1.Width).bind fun bC =>
  (E4 bC 3).bind fun bD =>
  (ck p0.Stations.2.1.Hi).bind fun bE =>
  (E4 bE 300).bind fun bF =>
  (ck (a3+bF)).bind fun bG =>
  (apd 88 a1 ([(mosaic_Radar.mk (api_Site.mk a9 b1 b3 b5 b8 bB 1000 bD) (api_Span.mk a3 bG))])).bind fun a6 =>
  (ck (a0+1)).bind fun bH =>
  k2 a6 bH) else (bif (a0==2) then ((ck p0.Stations.2.2.Lo).bind fun bI =>
  (E4 bI 601).bind fun bJ =>
  (ck (bJ-300)).bind fun a4 =>
  (Bj ([(⟨#[97]⟩:ByteArray),(⟨#[98]⟩:ByteArray),(⟨#[99]⟩:ByteArray)]) a0).bind fun aA =>
  (ck p0.Stations.2.2.X).bind fun bK =>
  (E4 bK 4000).bind fun bL =>
  (ck p0.Stations.2.2.Y).bind fun bM =>
  (E4 bM 4000).bind fun bN =>
  (ck p0.Stations.2.2.Z).bind fun bO =>
  (E4 bO 1000).bind fun bP =>
  (ck p0.Stations.2.2.Rose).bind fun bQ =>
  (E4 bQ 3).bind fun bR =>
  (ck (1+bR)).bind fun bS =>
  (ck p0.Stations.2.2.Gates).bind fun bT =>
  (E4 bT 5).bind fun bU =>
  (ck (1+bU)).bind fun bV =>
  (ck p0.Stations.2.2.Width).bind fun bW =>
  (E4 bW 3).bind fun bX =>
  (ck p0.Stations.2.2.Hi).bind fun bY =>
  (E4 bY 300).bind fun bZ =>
  (ck (a4+bZ)).bind fun c0 =>
  (apd 88 a1 ([(mosaic_Radar.mk (api_Site.mk aA bL bN bP bS bV 1000 bX) (api_Span.mk a4 c0))])).bind fun a7 =>
  (ck (a0+1)).bind fun c1 =>
  k2 a7 c1) else (none)))) else (Jc x6 x9 aB a1)
def C2 (p0:law11_Net) (x6:Int) (x9:Int) (a0:Int):Nat→(List mosaic_Radar)→Int→Option mosaic_Spec
  | 0,_,_=>none
  | n+1,a1,a2=>F1 p0 x6 x9 a0 (C2 p0 x6 x9 a0 n) a1 a2
def Fo (F:Nat) (p0:law11_Net):Option mosaic_Spec :=
  (ck p0.Wide).bind fun x4 =>
  (E4 x4 4).bind fun x5 =>
  (ck (1+x5)).bind fun x6 =>
  (ck p0.High).bind fun x7 =>
  (E4 x7 4).bind fun x8 =>
  (ck (1+x8)).bind fun x9 =>
  (ck p0.Age).bind fun a0 =>
  (E4 a0 2000).bind fun a1 =>
  (ck (1+a1)).bind fun a2 =>
  C2 p0 x6 x9 a2 F ([]) 0
def G8 (a1:mosaic_Radar) (a2:Int) (a3:Int) (a0:(List api_Span)):Option mosaic_Message :=
  some (mosaic_Message.mk (mosaic_Key.mk a1.Site.Name a2 a3) a0)
def Dr (p0:law11_Post) (a1:(List api_Span)) (a3:Int) (k2:((List api_Span)→Int→Option mosaic_Message)) (a0:Int):Option mosaic_Message :=
  (ck p0.Wide).bind fun a4 =>
  (ck (a0+a4)).bind fun a5 =>
  (apd 16 a1 ([(api_Span.mk a0 a5)])).bind fun a2 =>
  (ck (a3+1)).bind fun a6 =>
  k2 a2 a6
def G7 (p0:law11_Post) (p1:mosaic_Spec) (a2:mosaic_Radar) (a5:Int) (a8:Int) (k2:((List api_Span)→Int→Option mosaic_Message)) (a1:(List api_Span)) (a0:Int):Option mosaic_Message :=
  (ck (p1.Grid.Wide*p1.Grid.High)).bind fun a4 =>
  bif (decide (a0<a4)) then (bif (decide (((p0.Vals.length:Nat):Int)>0)) then ((E4 a0 ((p0.Vals.length:Nat):Int)).bind fun a6 =>
  (Bj p0.Vals a6).bind fun a3 =>
  (ck a3).bind fun a7 =>
  Dr p0 a1 a0 k2 a7) else (Dr p0 a1 a0 k2 0)) else (G8 a2 a5 a8 a1)
def Cx (p0:law11_Post) (p1:mosaic_Spec) (a0:mosaic_Radar) (a1:Int) (a2:Int):Nat→(List api_Span)→Int→Option mosaic_Message
  | 0,_,_=>none
  | n+1,a3,a4=>G7 p0 p1 a0 a1 a2 (Cx p0 p1 a0 a1 a2 n) a3 a4
def Eb (F:Nat) (p0:law11_Post) (p1:mosaic_Spec):Option mosaic_Message :=
  (ck p0.Radar).bind fun a1 =>
  (E4 a1 ((p1.Radars.length:Nat):Int)).bind fun a2 =>
  (Bj p1.Radars a2).bind fun a0 =>
  (ck p0.Tilt).bind fun a3 =>
  (E4 a3 4).bind fun a4 =>
  (ck p0.Time).bind fun a5 =>
  (E4 a5 2000).bind fun a6 =>
  Cx p0 p1 a0 a4 a6 F ([]) 0
def Fi (a0:(List mosaic_Message)):Option (List mosaic_Message) :=
  some a0
def Fj (a1:Int) (k2:(Int→(List mosaic_Message)→Option (List mosaic_Message))) (a0:(List mosaic_Message)):Option (List mosaic_Message) :=
  (ck (a1+1)).bind fun a2 =>
  k2 a2 a0
def Fh (F:Nat) (p0:mosaic_Node) (a5:Int) (k2:(Int→(List mosaic_Message)→Option (List mosaic_Message))) (a0:mosaic_Key) (k4:(Int→(List mosaic_Message)→Option (List mosaic_Message))) (a1:Int) (a2:(List mosaic_Message)):Option (List mosaic_Message) :=
  bif (decide (a1<((((lkM p0.kept a0).getD []).length:Nat):Int))) then ((Bj ((lkM p0.kept a0).getD []) a1).bind fun a4 =>
  (B2 F a4).bind fun a7 =>
  (apd 56 a2 ([(mosaic_Message.mk a0 a7)])).bind fun a3 =>
  (ck (a1+1)).bind fun a6 =>
  k4 a6 a3) else (Fj a5 k2 a2)
def Df (F:Nat) (p0:mosaic_Node) (a1:Int) (k2:(Int→(List mosaic_Message)→Option (List mosaic_Message))) (a0:mosaic_Key):Nat→Int→(List mosaic_Message)→Option (List mosaic_Message)
  | 0,_,_=>none
  | n+1,a3,a2=>Fh F p0 a1 k2 a0 (Df F p0 a1 k2 a0 n) a3 a2
def Fg (F:Nat) (p0:mosaic_Node) (a2:(List mosaic_Key)) (k2:(Int→(List mosaic_Message)→Option (List mosaic_Message))) (a0:Int) (a1:(List mosaic_Message)):Option (List mosaic_Message) :=
  bif (decide (a0<((a2.length:Nat):Int))) then ((Bj a2 a0).bind fun a3 =>
  Df F p0 a0 k2 a3 F 0 a1) else (Fi a1)
def Cm (F:Nat) (p0:mosaic_Node) (a0:(List mosaic_Key)):Nat→Int→(List mosaic_Message)→Option (List mosaic_Message)
  | 0,_,_=>none
  | n+1,a2,a1=>Fg F p0 a0 (Cm F p0 a0 n) a2 a1
def C9 (F:Nat) (p0:mosaic_Node):Option (List mosaic_Message) :=
  (F2 F p0).bind fun a0 =>
  Cm F p0 a0 F 0 ([])
def D3 (F:Nat) (p0:mosaic_Node):Option Int :=
  (Ak F p0).bind fun a0 =>
  bif a0 then (some 0) else (some p0.horizon)
def Bg (p0:api_Span) (p1:api_Span):Bool :=
  bif (decide (p0.Lo>p1.Hi)) then true else (decide (p1.Lo>p0.Hi))
def E9 (a1:((List mosaic_used)×(List (mosaic_where×(List api_Span))))) (a0:(List mosaic_Clash)):Option ((List mosaic_Clash)×Int×(List (mosaic_where×(List api_Span)))) :=
  some (a0,0,a1.2)
def Ea (a1:Int) (k2:(Int→(List mosaic_Clash)→Option ((List mosaic_Clash)×Int×(List (mosaic_where×(List api_Span)))))) (a0:(List mosaic_Clash)):Option ((List mosaic_Clash)×Int×(List (mosaic_where×(List api_Span)))) :=
  (ck (a1+1)).bind fun a2 =>
  k2 a2 a0
def Cf (a1:Int) (k4:(Int→(List mosaic_Clash)→Option ((List mosaic_Clash)×Int×(List (mosaic_where×(List api_Span)))))) (a0:(List mosaic_Clash)):Option ((List mosaic_Clash)×Int×(List (mosaic_where×(List api_Span)))) :=
  (ck (a1+1)).bind fun a2 =>
  k4 a2 a0
def Bz (a1:Int) (k6:(Int→(List mosaic_Clash)→Option ((List mosaic_Clash)×Int×(List (mosaic_where×(List api_Span)))))) (a0:(List mosaic_Clash)):Option ((List mosaic_Clash)×Int×(List (mosaic_where×(List api_Span)))) :=
  (ck (a1+1)).bind fun a2 =>
  k6 a2 a0
def E8 (a2:Int) (aC:Int) (k4:(Int→(List mosaic_Clash)→Option ((List mosaic_Clash)×Int×(List (mosaic_where×(List api_Span)))))) (a1:mosaic_used) (a8:(List mosaic_used)) (k6:(Int→(List mosaic_Clash)→Option ((List mosaic_Clash)×Int×(List (mosaic_where×(List api_Span)))))) (a4:Int) (a5:(List mosaic_Clash)):Option ((List mosaic_Clash)×Int×(List (mosaic_where×(List api_Span)))) :=
  bif (decide (a4<((a8.length:Nat):Int))) then ((Bj a8 a4).bind fun a0 =>
  (gd (((sEq a1.Key.Name a0.Key.Name)==false&&true)) (Bj a0.bands a2) default).bind fun a3 =>
  (gd (((bif (sEq a1.Key.Name a0.Key.Name) then true else (!(Ao a3)))==false&&true)) (Bj a1.bands a2) default).bind fun a6 =>
  (gd (((bif (sEq a1.Key.Name a0.Key.Name) then true else (!(Ao a3)))==false&&true)) (Bj a0.bands a2) default).bind fun a7 =>
  (gd (((bif (bif (sEq a1.Key.Name a0.Key.Name) then true else (!(Ao a3))) then true else (Bg a6 a7))==false&&true)) (Bj a1.vals a2) default).bind fun aA =>
  (gd (((bif (bif (sEq a1.Key.Name a0.Key.Name) then true else (!(Ao a3))) then true else (Bg a6 a7))==false&&true)) (Bj a0.vals a2) default).bind fun aB =>
  bif (bif (bif (bif (sEq a1.Key.Name a0.Key.Name) then true else (!(Ao a3))) then true else (Bg a6 a7)) then true else (!(Bg aA aB))) then (Bz a4 k6 a5) else ((apd 72 a5 ([(mosaic_Clash.mk a2 a1.Key a0.Key)])).bind fun a9 =>
  Bz a4 k6 a9)) else (Cf aC k4 a5)
def Bn (a2:Int) (a3:Int) (k4:(Int→(List mosaic_Clash)→Option ((List mosaic_Clash)×Int×(List (mosaic_where×(List api_Span)))))) (a1:mosaic_used) (a0:(List mosaic_used)):Nat→Int→(List mosaic_Clash)→Option ((List mosaic_Clash)×Int×(List (mosaic_where×(List api_Span))))
  | 0,_,_=>none
  | n+1,a5,a4=>E8 a2 a3 k4 a1 a0 (Bn a2 a3 k4 a1 a0 n) a5 a4
def E7 (F:Nat) (a1:((List mosaic_used)×(List (mosaic_where×(List api_Span))))) (a3:Int) (k2:(Int→(List mosaic_Clash)→Option ((List mosaic_Clash)×Int×(List (mosaic_where×(List api_Span)))))) (k4:(Int→(List mosaic_Clash)→Option ((List mosaic_Clash)×Int×(List (mosaic_where×(List api_Span)))))) (a0:Int) (a2:(List mosaic_Clash)):Option ((List mosaic_Clash)×Int×(List (mosaic_where×(List api_Span)))) :=
  bif (decide (a0<((a1.1.length:Nat):Int))) then ((Bj a1.1 a0).bind fun a4 =>
  (Bj a4.bands a3).bind fun a6 =>
  bif (!(Ao a6)) then (Cf a0 k4 a2) else ((ck (a0+1)).bind fun a7 =>
  (S9 a1.1 a7 ((a1.1.length:Nat):Int)).bind fun a5 =>
  Bn a3 a0 k4 a4 a5 F 0 a2)) else (Ea a3 k2 a2)
def Ba (F:Nat) (a1:((List mosaic_used)×(List (mosaic_where×(List api_Span))))) (a0:Int) (k2:(Int→(List mosaic_Clash)→Option ((List mosaic_Clash)×Int×(List (mosaic_where×(List api_Span)))))):Nat→Int→(List mosaic_Clash)→Option ((List mosaic_Clash)×Int×(List (mosaic_where×(List api_Span))))
  | 0,_,_=>none
  | n+1,a3,a2=>E7 F a1 a0 k2 (Ba F a1 a0 k2 n) a3 a2
def E6 (F:Nat) (a2:((List mosaic_used)×(List (mosaic_where×(List api_Span))))) (a3:Int) (k2:(Int→(List mosaic_Clash)→Option ((List mosaic_Clash)×Int×(List (mosaic_where×(List api_Span)))))) (a1:Int) (a0:(List mosaic_Clash)):Option ((List mosaic_Clash)×Int×(List (mosaic_where×(List api_Span)))) :=
  bif (decide (a1<a3)) then (Ba F a2 a1 k2 F 0 a0) else (E9 a2 a0)
def Bm (F:Nat) (a1:((List mosaic_used)×(List (mosaic_where×(List api_Span))))) (a0:Int):Nat→Int→(List mosaic_Clash)→Option ((List mosaic_Clash)×Int×(List (mosaic_where×(List api_Span))))
  | 0,_,_=>none
  | n+1,a3,a2=>E6 F a1 a0 (Bm F a1 a0 n) a3 a2
def B1 (F:Nat) (p0:mosaic_Node) (p1:Int):Option ((List mosaic_Clash)×Int×(List (mosaic_where×(List api_Span)))) :=
  (Ci F p0 p1).bind fun a0 =>
  bif (a0 != 0) then (some (([]:(List mosaic_Clash)),a0,p0.looks)) else ((Ey F p0 p1).bind fun a2 =>
  (ck (p0.spec.Grid.Wide*p0.spec.Grid.High)).bind fun a1 =>
  Bm F a2 a1 F 0 ([]))
def Fw (a0:(List Int)) (a2:Int):Option (List Int) :=
  (apd 1 a0 ([IntKind.u8.wrap a2])).bind fun a1 =>
  some a1
def Fv (k2:((List Int)→Int→Option (List Int))) (a1:(List Int)) (a0:Int):Option (List Int) :=
  bif (decide (a0≥128)) then ((E4 a0 128).bind fun a3 =>
  (ck (a3+128)).bind fun a4 =>
  (apd 1 a1 ([IntKind.u8.wrap a4])).bind fun a2 =>
  (Mx a0 128).bind fun a5 =>
  k2 a2 a5) else (Fw a1 a0)
def Dt:Nat→(List Int)→Int→Option (List Int)
  | 0,_,_=>none
  | n+1,a0,a1=>Fv (Dt n) a0 a1
def D8 (F:Nat) (p0:(List Int)) (p1:Int):Option (List Int) :=
  Dt F p0 p1
def Kc (a0:Int):Option (List Int) :=
  some ([IntKind.u8.wrap (Int.fdiv a0 16777216),IntKind.u8.wrap (Int.fdiv a0 65536),IntKind.u8.wrap (Int.fdiv a0 256),IntKind.u8.wrap a0])
def Hu (p0:(List Int)) (k2:(Int→Int→Option (List Int))) (a1:Int) (a0:Int):Option (List Int) :=
  bif (decide (a0<((p0.length:Nat):Int))) then ((Bj p0 a0).bind fun a2 =>
  (ck (a0+1)).bind fun a3 =>
  k2 (IntKind.u32.wrap ((IntKind.u32.wrap ((IntKind.u32.wrap (31*a1))+(IntKind.u32.wrap a2)))+1)) a3) else (Kc a1)
def Ex (p0:(List Int)):Nat→Int→Int→Option (List Int)
  | 0,_,_=>none
  | n+1,a0,a1=>Hu p0 (Ex p0 n) a0 a1
def Kn (F:Nat) (p0:(List Int)):Option (List Int) :=
  Ex p0 F 1 0
def Cu (F:Nat) (a0:(List Int)):Option (List Int) :=
  (Kn F a0).bind fun a2 =>
  (apd 1 a0 a2).bind fun a1 =>
  some a1
def E2 (a1:Int) (k2:(Int→(List Int)→Option (List Int))) (a0:(List Int)):Option (List Int) :=
  (ck (a1+1)).bind fun a2 =>
  k2 a2 a0
def E0 (F:Nat) (a4:Int) (k2:(Int→(List Int)→Option (List Int))) (a3:mosaic_Message) (k4:((List Int)→Int→Option (List Int))) (a2:(List Int)) (a1:Int):Option (List Int) :=
  bif (decide (a1<((a3.Vals.length:Nat):Int))) then ((Bj a3.Vals a1).bind fun a0 =>
  (ck (a0.Hi-a0.Lo)).bind fun a5 =>
  (D8 F a2 a0.Lo).bind fun a7 =>
  (D8 F a7 a5).bind fun a8 =>
  (ck (a1+1)).bind fun a6 =>
  k4 a8 a6) else (E2 a4 k2 a2)
def C8 (F:Nat) (a1:Int) (k2:(Int→(List Int)→Option (List Int))) (a0:mosaic_Message):Nat→(List Int)→Int→Option (List Int)
  | 0,_,_=>none
  | n+1,a2,a3=>E0 F a1 k2 a0 (C8 F a1 k2 a0 n) a2 a3
def Dz (F:Nat) (a3:(List mosaic_Message)) (k2:(Int→(List Int)→Option (List Int))) (a1:Int) (a2:(List Int)):Option (List Int) :=
  bif (decide (a1<((a3.length:Nat):Int))) then ((Bj a3 a1).bind fun a0 =>
  (D8 F a2 ((a0.Key.Name.size:Nat):Int)).bind fun a5 =>
  (apd 1 a5 (sby a0.Key.Name)).bind fun a4 =>
  (D8 F a4 a0.Key.Tilt).bind fun a6 =>
  (D8 F a6 a0.Key.Time).bind fun a7 =>
  C8 F a1 k2 a0 F a7 0) else (Cu F a2)
def C7 (F:Nat) (a0:(List mosaic_Message)):Nat→Int→(List Int)→Option (List Int)
  | 0,_,_=>none
  | n+1,a2,a1=>Dz F a0 (C7 F a0 n) a2 a1
def Bc (F:Nat) (p0:mosaic_Node):Option (List Int) :=
  (Ak F p0).bind fun a0 =>
  bif a0 then (some ([]:(List Int))) else ((D8 F ([82,68,77,49]) p0.horizon).bind fun a1 =>
  (D8 F a1 p0.count).bind fun a2 =>
  (C9 F p0).bind fun a3 =>
  C7 F a3 F 0 a2)
def Bf (F:Nat) (p0:mosaic_Node) (p1:Int):Option (Int×Int×mosaic_Node) :=
  (Ak F p0).bind fun a1 =>
  bif a1 then (some (0,1,p0)) else (bif (!(Bt p1 0 4294967296)) then (some (0,3,p0)) else (bif (decide (p1≤p0.horizon)) then (some (0,0,p0)) else ((F4 F p0 p1).bind fun a0 =>
  some (a0.1,0,(mosaic_Node.mk (mosaic_Spec.mk (api_Grid.mk a0.2.spec.Grid.X a0.2.spec.Grid.Y a0.2.spec.Grid.Size a0.2.spec.Grid.Wide a0.2.spec.Grid.High) (api_Span.mk a0.2.spec.Earth.Lo a0.2.spec.Earth.Hi) a0.2.spec.Radars a0.2.spec.Age) a0.2.radars a0.2.horizon a0.2.kept a0.2.count a0.2.looks)))))
def C5:Option Bool :=
  some true
def Bi (p0:(List mosaic_Radar)) (p1:(List mosaic_Radar)) (k2:(Int→Option Bool)) (a2:Int):Option Bool :=
  bif (decide (a2<((p0.length:Nat):Int))) then ((Bj p0 a2).bind fun a0 =>
  (Bj p1 a2).bind fun a1 =>
  bif (!(((a0.Site.Name==a1.Site.Name)&&(((a0.Site.X:Int)==a1.Site.X)&&(((a0.Site.Y:Int)==a1.Site.Y)&&(((a0.Site.Z:Int)==a1.Site.Z)&&(((a0.Site.Rose:Int)==a1.Site.Rose)&&(((a0.Site.Gates:Int)==a1.Site.Gates)&&(((a0.Site.Step:Int)==a1.Site.Step)&&(((a0.Site.Width:Int)==a1.Site.Width)&&true))))))))&&((((a0.Offset.Lo:Int)==a1.Offset.Lo)&&(((a0.Offset.Hi:Int)==a1.Offset.Hi)&&true))&&true))) then (some false) else ((ck (a2+1)).bind fun a3 =>
  k2 a3)) else (C5)
def Au (p0:(List mosaic_Radar)) (p1:(List mosaic_Radar)):Nat→Int→Option Bool
  | 0,_=>none
  | n+1,a0=>Bi p0 p1 (Au p0 p1 n) a0
def B8 (F:Nat) (p0:(List mosaic_Radar)) (p1:(List mosaic_Radar)):Option Bool :=
  bif (((p0.length:Nat):Int) != ((p1.length:Nat):Int)) then (some false) else (Au p0 p1 F 0)
def F3 (F:Nat) (p0:mosaic_Spec) (p1:mosaic_Spec):Option Bool :=
  (gd (((bif (bif (((p0.Grid.X:Int)==p1.Grid.X)&&(((p0.Grid.Y:Int)==p1.Grid.Y)&&(((p0.Grid.Size:Int)==p1.Grid.Size)&&(((p0.Grid.Wide:Int)==p1.Grid.Wide)&&(((p0.Grid.High:Int)==p1.Grid.High)&&true))))) then (((p0.Earth.Lo:Int)==p1.Earth.Lo)&&(((p0.Earth.Hi:Int)==p1.Earth.Hi)&&true)) else false) then (p0.Age==p1.Age) else false)==true&&true)) (B8 F p0.Radars p1.Radars) default).bind fun y9 =>
  some (bif (bif (bif (((p0.Grid.X:Int)==p1.Grid.X)&&(((p0.Grid.Y:Int)==p1.Grid.Y)&&(((p0.Grid.Size:Int)==p1.Grid.Size)&&(((p0.Grid.Wide:Int)==p1.Grid.Wide)&&(((p0.Grid.High:Int)==p1.Grid.High)&&true))))) then (((p0.Earth.Lo:Int)==p1.Earth.Lo)&&(((p0.Earth.Hi:Int)==p1.Earth.Hi)&&true)) else false) then (p0.Age==p1.Age) else false) then y9 else false)
def Er (p0:mosaic_Node) (a5:(Int×mosaic_Node)) (a8:Int) (a9:Int) (a3:Int) (a0:Int) (aA:Int) (aB:Int) (aC:Int) (aD:Int) (aE:Int) (a6:(List mosaic_Radar)) (aF:Int) (a2:(List (mosaic_Key×(List (List api_Span))))) (a1:(List (ByteArray×mosaic_Radar))) (a7:(List (mosaic_where×(List api_Span)))):Option (Int×Int×mosaic_Node) :=
  bif (decide (a0>256)) then (some (0,13,(mosaic_Node.mk p0.spec a1 p0.horizon p0.kept p0.count p0.looks))) else ((ck (a0-a5.2.count)).bind fun a4 =>
  some (a4,0,(mosaic_Node.mk p0.spec a1 a3 a2 a0 p0.looks)))
def Cp (a4:Int) (k2:(Int→Int→Int→Int→Int→Int→Int→Int→Int→(List mosaic_Radar)→Int→(List (mosaic_Key×(List (List api_Span))))→(List (ByteArray×mosaic_Radar))→(List (mosaic_where×(List api_Span)))→Int→Option (Int×Int×mosaic_Node))) (a5:Int) (a6:Int) (a7:Int) (a8:Int) (a9:Int) (aA:Int) (aB:Int) (aC:Int) (aD:Int) (a0:(List mosaic_Radar)) (aE:Int) (a1:(List (mosaic_Key×(List (List api_Span))))) (a2:(List (ByteArray×mosaic_Radar))) (a3:(List (mosaic_where×(List api_Span)))):Option (Int×Int×mosaic_Node) :=
  (ck (a4+1)).bind fun aF =>
  k2 a5 a6 a7 a8 a9 aA aB aC aD a0 aE a1 a2 a3 aF
def Ep (F:Nat) (p0:mosaic_Node) (aI:(Int×mosaic_Node)) (aH:(List mosaic_Message)) (k2:(Int→Int→Int→Int→Int→Int→Int→Int→Int→(List mosaic_Radar)→Int→(List (mosaic_Key×(List (List api_Span))))→(List (ByteArray×mosaic_Radar))→(List (mosaic_where×(List api_Span)))→Int→Option (Int×Int×mosaic_Node))) (a6:Int) (a7:Int) (a1:Int) (a8:Int) (a9:Int) (aA:Int) (aB:Int) (aC:Int) (aD:Int) (a2:(List mosaic_Radar)) (aE:Int) (a3:(List (mosaic_Key×(List (List api_Span))))) (a4:(List (ByteArray×mosaic_Radar))) (a5:(List (mosaic_where×(List api_Span)))) (aF:Int):Option (Int×Int×mosaic_Node) :=
  bif (decide (aF<((aH.length:Nat):Int))) then ((Bj aH aF).bind fun aG =>
  (Bw F (mosaic_Node.mk (mosaic_Spec.mk (api_Grid.mk a6 a7 a9 aA aB) (api_Span.mk aC aD) a2 aE) a4 a1 a3 a8 a5) aG).bind fun aJ =>
  bif (bif (!aJ.2) then (decide (aG.Key.Time≥a1)) else false) then ((Dy F (mosaic_Node.mk (mosaic_Spec.mk (api_Grid.mk a6 a7 a9 aA aB) (api_Span.mk aC aD) a2 aE) a4 a1 a3 a8 a5) aG).bind fun a0 =>
  Cp aF k2 a0.spec.Grid.X a0.spec.Grid.Y a0.horizon a0.count a0.spec.Grid.Size a0.spec.Grid.Wide a0.spec.Grid.High a0.spec.Earth.Lo a0.spec.Earth.Hi a0.spec.Radars a0.spec.Age a0.kept a0.radars a0.looks) else (Cp aF k2 a6 a7 a1 a8 a9 aA aB aC aD a2 aE a3 a4 a5)) else (Er p0 aI a6 a7 a1 a8 a9 aA aB aC aD a2 aE a3 a4 a5)
def Cc (F:Nat) (p0:mosaic_Node) (a1:(Int×mosaic_Node)) (a0:(List mosaic_Message)):Nat→Int→Int→Int→Int→Int→Int→Int→Int→Int→(List mosaic_Radar)→Int→(List (mosaic_Key×(List (List api_Span))))→(List (ByteArray×mosaic_Radar))→(List (mosaic_where×(List api_Span)))→Int→Option (Int×Int×mosaic_Node)
  | 0,_,_,_,_,_,_,_,_,_,_,_,_,_,_,_=>none
  | n+1,a6,a7,a8,a9,aA,aB,aC,aD,aE,a2,aF,a3,a4,a5,aG=>Ep F p0 a1 a0 (Cc F p0 a1 a0 n) a6 a7 a8 a9 aA aB aC aD aE a2 aF a3 a4 a5 aG
def Bu (F:Nat) (p0:mosaic_Node) (p1:mosaic_Node):Option (Int×Int×mosaic_Node) :=
  (Ak F p0).bind fun a2 =>
  bif a2 then (some (0,1,p0)) else ((Ak F p1).bind fun a3 =>
  bif a3 then (some (0,1,p0)) else ((F3 F p0.spec p1.spec).bind fun a4 =>
  bif (!a4) then (some (0,11,p0)) else ((K6 F p0).bind fun a1 =>
  (F4 F (mosaic_Node.mk a1.spec p0.radars a1.horizon a1.kept a1.count a1.looks) (if p1.horizon>p0.horizon then p1.horizon else p0.horizon)).bind fun a0 =>
  (C9 F p1).bind fun a5 =>
  Cc F p0 a0 a5 F a0.2.spec.Grid.X a0.2.spec.Grid.Y a0.2.horizon a0.2.count a0.2.spec.Grid.Size a0.2.spec.Grid.Wide a0.2.spec.Grid.High a0.2.spec.Earth.Lo a0.2.spec.Earth.Hi a0.2.spec.Radars a0.2.spec.Age a0.2.kept a0.2.radars a0.2.looks 0)))
def Ky (a0:(List (mosaic_where×(List api_Span)))) (a1:(List (mosaic_where×(List api_Span)))):Option (Bool×(List (mosaic_where×(List api_Span)))×(List (mosaic_where×(List api_Span)))) :=
  some (true,a1,a0)
def H0 (a3:Int) (k2:((List (mosaic_where×(List api_Span)))→(List (mosaic_where×(List api_Span)))→Int→Option (Bool×(List (mosaic_where×(List api_Span)))×(List (mosaic_where×(List api_Span)))))) (a0:(List (mosaic_where×(List api_Span)))) (a1:(List (mosaic_where×(List api_Span)))):Option (Bool×(List (mosaic_where×(List api_Span)))×(List (mosaic_where×(List api_Span)))) :=
  (ck (a3+1)).bind fun a2 =>
  k2 a0 a1 a2
def Je (a6:Int) (k2:((List (mosaic_where×(List api_Span)))→(List (mosaic_where×(List api_Span)))→Int→Option (Bool×(List (mosaic_where×(List api_Span)))×(List (mosaic_where×(List api_Span)))))) (a3:((List mosaic_Clash)×Int×(List (mosaic_where×(List api_Span))))) (a4:((List mosaic_Clash)×Int×(List (mosaic_where×(List api_Span))))) (k5:(Int→Option (Bool×(List (mosaic_where×(List api_Span)))×(List (mosaic_where×(List api_Span)))))) (a2:Int):Option (Bool×(List (mosaic_where×(List api_Span)))×(List (mosaic_where×(List api_Span)))) :=
  bif (decide (a2<((a3.1.length:Nat):Int))) then ((Bj a3.1 a2).bind fun a0 =>
  (Bj a4.1 a2).bind fun a1 =>
  bif (!(((a0.Pixel:Int)==a1.Pixel)&&(((a0.A.Name==a1.A.Name)&&(((a0.A.Tilt:Int)==a1.A.Tilt)&&(((a0.A.Time:Int)==a1.A.Time)&&true)))&&(((a0.B.Name==a1.B.Name)&&(((a0.B.Tilt:Int)==a1.B.Tilt)&&(((a0.B.Time:Int)==a1.B.Time)&&true)))&&true)))) then (some (false,a3.2.2,a4.2.2)) else ((ck (a2+1)).bind fun a5 =>
  k5 a5)) else (H0 a6 k2 a4.2.2 a3.2.2)
def Fq (a0:Int) (k2:((List (mosaic_where×(List api_Span)))→(List (mosaic_where×(List api_Span)))→Int→Option (Bool×(List (mosaic_where×(List api_Span)))×(List (mosaic_where×(List api_Span)))))) (a1:((List mosaic_Clash)×Int×(List (mosaic_where×(List api_Span))))) (a2:((List mosaic_Clash)×Int×(List (mosaic_where×(List api_Span))))):Nat→Int→Option (Bool×(List (mosaic_where×(List api_Span)))×(List (mosaic_where×(List api_Span))))
  | 0,_=>none
  | n+1,a3=>Je a0 k2 a1 a2 (Fq a0 k2 a1 a2 n) a3
def H3 (F:Nat) (p0:mosaic_Node) (p1:mosaic_Node) (p2:(List Int)) (a2:Int) (k2:((List (mosaic_where×(List api_Span)))→(List (mosaic_where×(List api_Span)))→Int→Option (Bool×(List (mosaic_where×(List api_Span)))×(List (mosaic_where×(List api_Span)))))) (a7:((List mosaic_Pixel)×Int×(List (mosaic_where×(List api_Span))))) (a8:((List mosaic_Pixel)×Int×(List (mosaic_where×(List api_Span))))):Option (Bool×(List (mosaic_where×(List api_Span)))×(List (mosaic_where×(List api_Span)))) :=
  (Bj p2 a2).bind fun a3 =>
  (ck a3).bind fun a5 =>
  (B1 F (mosaic_Node.mk p0.spec p0.radars p0.horizon p0.kept p0.count a7.2.2) a5).bind fun a0 =>
  (Bj p2 a2).bind fun a4 =>
  (ck a4).bind fun a6 =>
  (B1 F (mosaic_Node.mk p1.spec p1.radars p1.horizon p1.kept p1.count a8.2.2) a6).bind fun a1 =>
  bif (bif (a0.2.1 != a1.2.1) then true else (((a0.1.length:Nat):Int) != ((a1.1.length:Nat):Int))) then (some (false,a0.2.2,a1.2.2)) else (Fq a2 k2 a0 a1 F 0)
def Jf (F:Nat) (p0:mosaic_Node) (p1:mosaic_Node) (p2:(List Int)) (a6:Int) (k2:((List (mosaic_where×(List api_Span)))→(List (mosaic_where×(List api_Span)))→Int→Option (Bool×(List (mosaic_where×(List api_Span)))×(List (mosaic_where×(List api_Span)))))) (a3:((List mosaic_Pixel)×Int×(List (mosaic_where×(List api_Span))))) (a4:((List mosaic_Pixel)×Int×(List (mosaic_where×(List api_Span))))) (k6:(Int→Option (Bool×(List (mosaic_where×(List api_Span)))×(List (mosaic_where×(List api_Span)))))) (a2:Int):Option (Bool×(List (mosaic_where×(List api_Span)))×(List (mosaic_where×(List api_Span)))) :=
  bif (decide (a2<((a3.1.length:Nat):Int))) then ((Bj a3.1 a2).bind fun a0 =>
  (Bj a4.1 a2).bind fun a1 =>
  bif (!((((a0.Value_.Lo:Int)==a1.Value_.Lo)&&(((a0.Value_.Hi:Int)==a1.Value_.Hi)&&true))&&(((a0.Key.Name==a1.Key.Name)&&(((a0.Key.Tilt:Int)==a1.Key.Tilt)&&(((a0.Key.Time:Int)==a1.Key.Time)&&true)))&&true))) then (some (false,a3.2.2,a4.2.2)) else ((ck (a2+1)).bind fun a5 =>
  k6 a5)) else (H3 F p0 p1 p2 a6 k2 a3 a4)
def Fs (F:Nat) (p0:mosaic_Node) (p1:mosaic_Node) (p2:(List Int)) (a0:Int) (k2:((List (mosaic_where×(List api_Span)))→(List (mosaic_where×(List api_Span)))→Int→Option (Bool×(List (mosaic_where×(List api_Span)))×(List (mosaic_where×(List api_Span)))))) (a1:((List mosaic_Pixel)×Int×(List (mosaic_where×(List api_Span))))) (a2:((List mosaic_Pixel)×Int×(List (mosaic_where×(List api_Span))))):Nat→Int→Option (Bool×(List (mosaic_where×(List api_Span)))×(List (mosaic_where×(List api_Span))))
  | 0,_=>none
  | n+1,a3=>Jf F p0 p1 p2 a0 k2 a1 a2 (Fs F p0 p1 p2 a0 k2 a1 a2 n) a3
def Jd (F:Nat) (p0:mosaic_Node) (p1:mosaic_Node) (p2:(List Int)) (k2:((List (mosaic_where×(List api_Span)))→(List (mosaic_where×(List api_Span)))→Int→Option (Bool×(List (mosaic_where×(List api_Span)))×(List (mosaic_where×(List api_Span)))))) (a3:(List (mosaic_where×(List api_Span)))) (a4:(List (mosaic_where×(List api_Span)))) (a0:Int):Option (Bool×(List (mosaic_where×(List api_Span)))×(List (mosaic_where×(List api_Span)))) :=
  bif (decide (a0<((p2.length:Nat):Int))) then ((Bj p2 a0).bind fun a5 =>
  (ck a5).bind fun a7 =>
  (Bh F (mosaic_Node.mk p0.spec p0.radars p0.horizon p0.kept p0.count a4) a7).bind fun a1 =>
  (Bj p2 a0).bind fun a6 =>
  (ck a6).bind fun a8 =>
  (Bh F (mosaic_Node.mk p1.spec p1.radars p1.horizon p1.kept p1.count a3) a8).bind fun a2 =>
  bif (bif (a1.2.1 != a2.2.1) then true else (((a1.1.length:Nat):Int) != ((a2.1.length:Nat):Int))) then (some (false,a1.2.2,a2.2.2)) else (Fs F p0 p1 p2 a0 k2 a1 a2 F 0)) else (Ky a3 a4)
def Fp (F:Nat) (p0:mosaic_Node) (p1:mosaic_Node) (p2:(List Int)):Nat→(List (mosaic_where×(List api_Span)))→(List (mosaic_where×(List api_Span)))→Int→Option (Bool×(List (mosaic_where×(List api_Span)))×(List (mosaic_where×(List api_Span))))
  | 0,_,_,_=>none
  | n+1,a0,a1,a2=>Jd F p0 p1 p2 (Fp F p0 p1 p2 n) a0 a1 a2
def Dg (F:Nat) (p0:mosaic_Node) (p1:mosaic_Node) (p2:(List Int)):Option (Bool×(List (mosaic_where×(List api_Span)))×(List (mosaic_where×(List api_Span)))) :=
  (Bc F p0).bind fun a0 =>
  (Bc F p1).bind fun a1 =>
  bif (!(sEq (bst a0) (bst a1))) then (some (false,p0.looks,p1.looks)) else ((D3 F p0).bind fun a2 =>
  (D3 F p1).bind fun a3 =>
  bif (a2 != a3) then (some (false,p0.looks,p1.looks)) else ((F2 F p0).bind fun a4 =>
  (F2 F p1).bind fun a5 =>
  bif (((a4.length:Nat):Int) != ((a5.length:Nat):Int)) then (some (false,p0.looks,p1.looks)) else ((Ef F p0).bind fun a6 =>
  (Ef F p1).bind fun a7 =>
  bif (((a6.length:Nat):Int) != ((a7.length:Nat):Int)) then (some (false,p0.looks,p1.looks)) else (Fp F p0 p1 p2 F p1.looks p0.looks 0))))
def Db (p0:mosaic_Node) (a5:(Int×mosaic_Node)) (a8:Int) (a9:Int) (a3:Int) (a0:Int) (aA:Int) (aB:Int) (aC:Int) (aD:Int) (aE:Int) (a6:(List mosaic_Radar)) (aF:Int) (a2:(List (mosaic_Key×(List (List api_Span))))) (a7:(List (mosaic_where×(List api_Span)))) (a1:(List (ByteArray×mosaic_Radar))):Option (Int×Int×mosaic_Node) :=
  bif (decide (a0>256)) then (some (0,13,(mosaic_Node.mk p0.spec a1 p0.horizon p0.kept p0.count p0.looks))) else ((ck (a0-a5.2.count)).bind fun a4 =>
  some (a4,0,(mosaic_Node.mk p0.spec a1 a3 a2 a0 p0.looks)))
def C0 (a4:Int) (k2:(Int→Int→Int→Int→Int→Int→Int→Int→Int→(List mosaic_Radar)→Int→(List (mosaic_Key×(List (List api_Span))))→(List (mosaic_where×(List api_Span)))→(List (ByteArray×mosaic_Radar))→Int→Option (Int×Int×mosaic_Node))) (a5:Int) (a6:Int) (a7:Int) (a8:Int) (a9:Int) (aA:Int) (aB:Int) (aC:Int) (aD:Int) (a0:(List mosaic_Radar)) (aE:Int) (a1:(List (mosaic_Key×(List (List api_Span))))) (a2:(List (mosaic_where×(List api_Span)))) (a3:(List (ByteArray×mosaic_Radar))):Option (Int×Int×mosaic_Node) :=
  (ck (a4+1)).bind fun aF =>
  k2 a5 a6 a7 a8 a9 aA aB aC aD a0 aE a1 a2 a3 aF
def Da (F:Nat) (p0:mosaic_Node) (aI:(Int×mosaic_Node)) (aH:(List mosaic_Message)) (k2:(Int→Int→Int→Int→Int→Int→Int→Int→Int→(List mosaic_Radar)→Int→(List (mosaic_Key×(List (List api_Span))))→(List (mosaic_where×(List api_Span)))→(List (ByteArray×mosaic_Radar))→Int→Option (Int×Int×mosaic_Node))) (a6:Int) (a7:Int) (a1:Int) (a8:Int) (a9:Int) (aA:Int) (aB:Int) (aC:Int) (aD:Int) (a2:(List mosaic_Radar)) (aE:Int) (a3:(List (mosaic_Key×(List (List api_Span))))) (a4:(List (mosaic_where×(List api_Span)))) (a5:(List (ByteArray×mosaic_Radar))) (aF:Int):Option (Int×Int×mosaic_Node) :=
  bif (decide (aF<((aH.length:Nat):Int))) then ((Bj aH aF).bind fun aG =>
  (Bw F (mosaic_Node.mk (mosaic_Spec.mk (api_Grid.mk a6 a7 a9 aA aB) (api_Span.mk aC aD) a2 aE) a5 a1 a3 a8 a4) aG).bind fun aJ =>
  bif (bif (!aJ.2) then (decide (aG.Key.Time≥a1)) else false) then ((Dy F (mosaic_Node.mk (mosaic_Spec.mk (api_Grid.mk a6 a7 a9 aA aB) (api_Span.mk aC aD) a2 aE) a5 a1 a3 a8 a4) aG).bind fun a0 =>
  C0 aF k2 a0.spec.Grid.X a0.spec.Grid.Y a0.horizon a0.count a0.spec.Grid.Size a0.spec.Grid.Wide a0.spec.Grid.High a0.spec.Earth.Lo a0.spec.Earth.Hi a0.spec.Radars a0.spec.Age a0.kept a0.looks a0.radars) else (C0 aF k2 a6 a7 a1 a8 a9 aA aB aC aD a2 aE a3 a4 a5)) else (Db p0 aI a6 a7 a1 a8 a9 aA aB aC aD a2 aE a3 a4 a5)
def Bl (F:Nat) (p0:mosaic_Node) (a1:(Int×mosaic_Node)) (a0:(List mosaic_Message)):Nat→Int→Int→Int→Int→Int→Int→Int→Int→Int→(List mosaic_Radar)→Int→(List (mosaic_Key×(List (List api_Span))))→(List (mosaic_where×(List api_Span)))→(List (ByteArray×mosaic_Radar))→Int→Option (Int×Int×mosaic_Node)
  | 0,_,_,_,_,_,_,_,_,_,_,_,_,_,_,_=>none
  | n+1,a6,a7,a8,a9,aA,aB,aC,aD,aE,a2,aF,a3,a4,a5,aG=>Da F p0 a1 a0 (Bl F p0 a1 a0 n) a6 a7 a8 a9 aA aB aC aD aE a2 aF a3 a4 a5 aG
def Cg (F:Nat) (p0:mosaic_Node):Option (Int×Int×mosaic_Node) :=
  (Ak F p0).bind fun a2 =>
  bif a2 then (some (0,1,p0)) else ((Ak F p0).bind fun a3 =>
  bif a3 then (some (0,1,p0)) else ((F3 F p0.spec p0.spec).bind fun a4 =>
  bif (!a4) then (some (0,11,p0)) else ((K6 F p0).bind fun a1 =>
  (F4 F (mosaic_Node.mk a1.spec p0.radars a1.horizon a1.kept a1.count a1.looks) (if p0.horizon>p0.horizon then p0.horizon else p0.horizon)).bind fun a0 =>
  (C9 F (mosaic_Node.mk p0.spec a0.2.radars p0.horizon p0.kept p0.count p0.looks)).bind fun a5 =>
  Bl F p0 a0 a5 F a0.2.spec.Grid.X a0.2.spec.Grid.Y a0.2.horizon a0.2.count a0.2.spec.Grid.Size a0.2.spec.Grid.Wide a0.2.spec.Grid.High a0.2.spec.Earth.Lo a0.2.spec.Earth.Hi a0.2.spec.Radars a0.2.spec.Age a0.2.kept a0.2.looks a0.2.radars 0)))
def Dm (F:Nat) (p4:(List Int)) (aY:Int) (a0:(Int×Int×mosaic_Node)) (aZ:Int) (b0:Int) (b1:Int) (b2:Int) (b3:Int) (b4:Int) (b5:Int) (b6:Int) (b7:Int) (aQ:(List mosaic_Radar)) (b8:Int) (b9:Int) (bA:Int) (bB:Int) (bC:Int) (bD:Int) (bE:Int) (bF:Int) (bG:Int) (bH:Int) (aR:(List mosaic_Radar)) (bI:Int) (aS:(List (ByteArray×mosaic_Radar))) (aT:(List (mosaic_Key×(List (List api_Span))))) (aU:(List (mosaic_where×(List api_Span)))) (aV:(List (ByteArray×mosaic_Radar))) (aW:(List (mosaic_Key×(List (List api_Span))))) (aX:(List (mosaic_where×(List api_Span)))) (aE:Int) (aF:Int) (aG:Int) (aH:Int) (aI:Int) (aJ:Int) (aK:Int) (aL:Int) (aM:Int) (aA:(List mosaic_Radar)) (aN:Int) (aB:(List (ByteArray×mosaic_Radar))) (aC:(List (mosaic_Key×(List (List api_Span))))) (aD:(List (mosaic_where×(List api_Span)))):Option Bool :=
  (Bf F (mosaic_Node.mk (mosaic_Spec.mk (api_Grid.mk aZ b0 b3 b4 b5) (api_Span.mk b6 b7) aQ b8) aS b1 aT b2 aU) aY).bind fun a1 =>
  (K6 F (mosaic_Node.mk (mosaic_Spec.mk (api_Grid.mk aE aF aI aJ aK) (api_Span.mk aL aM) aA aN) aB aG aC aH aD)).bind fun a6 =>
  (K6 F (mosaic_Node.mk (mosaic_Spec.mk (api_Grid.mk a1.2.2.spec.Grid.X a1.2.2.spec.Grid.Y a1.2.2.spec.Grid.Size a1.2.2.spec.Grid.Wide a1.2.2.spec.Grid.High) (api_Span.mk a1.2.2.spec.Earth.Lo a1.2.2.spec.Earth.Hi) a1.2.2.spec.Radars a1.2.2.spec.Age) a1.2.2.radars a1.2.2.horizon a1.2.2.kept a1.2.2.count a1.2.2.looks)).bind fun a7 =>
  (Bu F (mosaic_Node.mk a6.spec aB a6.horizon a6.kept a6.count a6.looks) (mosaic_Node.mk (mosaic_Spec.mk (api_Grid.mk a1.2.2.spec.Grid.X a1.2.2.spec.Grid.Y a1.2.2.spec.Grid.Size a1.2.2.spec.Grid.Wide a1.2.2.spec.Grid.High) (api_Span.mk a1.2.2.spec.Earth.Lo a1.2.2.spec.Earth.Hi) a1.2.2.spec.Radars a1.2.2.spec.Age) a1.2.2.radars a1.2.2.horizon a1.2.2.kept a1.2.2.count a1.2.2.looks)).bind fun a2 =>
  (Bu F (mosaic_Node.mk a7.spec a1.2.2.radars a7.horizon a7.kept a7.count a7.looks) (mosaic_Node.mk (mosaic_Spec.mk (api_Grid.mk aE aF aI aJ aK) (api_Span.mk aL aM) aA aN) a2.2.2.radars aG aC aH aD)).bind fun a5 =>
  bif (bif (a2.2.1 != 0) then true else (a5.2.1 != 0)) then (some false) else ((Dg F (mosaic_Node.mk (mosaic_Spec.mk (api_Grid.mk a0.2.2.spec.Grid.X a0.2.2.spec.Grid.Y a0.2.2.spec.Grid.Size a0.2.2.spec.Grid.Wide a0.2.2.spec.Grid.High) (api_Span.mk a0.2.2.spec.Earth.Lo a0.2.2.spec.Earth.Hi) a0.2.2.spec.Radars a0.2.2.spec.Age) a0.2.2.radars a0.2.2.horizon a0.2.2.kept a0.2.2.count a0.2.2.looks) (mosaic_Node.mk (mosaic_Spec.mk (api_Grid.mk b9 bA bD bE bF) (api_Span.mk bG bH) aR bI) aV bB aW bC aX) p4).bind fun aO =>
  bif (!aO.1) then (some false) else ((Dg F (mosaic_Node.mk (mosaic_Spec.mk (api_Grid.mk a0.2.2.spec.Grid.X a0.2.2.spec.Grid.Y a0.2.2.spec.Grid.Size a0.2.2.spec.Grid.Wide a0.2.2.spec.Grid.High) (api_Span.mk a0.2.2.spec.Earth.Lo a0.2.2.spec.Earth.Hi) a0.2.2.spec.Radars a0.2.2.spec.Age) a0.2.2.radars a0.2.2.horizon a0.2.2.kept a0.2.2.count aO.2.1) (mosaic_Node.mk (mosaic_Spec.mk (api_Grid.mk a2.2.2.spec.Grid.X a2.2.2.spec.Grid.Y a2.2.2.spec.Grid.Size a2.2.2.spec.Grid.Wide a2.2.2.spec.Grid.High) (api_Span.mk a2.2.2.spec.Earth.Lo a2.2.2.spec.Earth.Hi) a2.2.2.spec.Radars a2.2.2.spec.Age) a2.2.2.radars a2.2.2.horizon a2.2.2.kept a2.2.2.count a2.2.2.looks) p4).bind fun a8 =>
  bif (!a8.1) then (some false) else ((Dg F (mosaic_Node.mk (mosaic_Spec.mk (api_Grid.mk a0.2.2.spec.Grid.X a0.2.2.spec.Grid.Y a0.2.2.spec.Grid.Size a0.2.2.spec.Grid.Wide a0.2.2.spec.Grid.High) (api_Span.mk a0.2.2.spec.Earth.Lo a0.2.2.spec.Earth.Hi) a0.2.2.spec.Radars a0.2.2.spec.Age) a0.2.2.radars a0.2.2.horizon a0.2.2.kept a0.2.2.count a8.2.1) (mosaic_Node.mk (mosaic_Spec.mk (api_Grid.mk a5.2.2.spec.Grid.X a5.2.2.spec.Grid.Y a5.2.2.spec.Grid.Size a5.2.2.spec.Grid.Wide a5.2.2.spec.Grid.High) (api_Span.mk a5.2.2.spec.Earth.Lo a5.2.2.spec.Earth.Hi) a5.2.2.spec.Radars a5.2.2.spec.Age) a5.2.2.radars a5.2.2.horizon a5.2.2.kept a5.2.2.count a5.2.2.looks) p4).bind fun a9 =>
  bif (!a9.1) then (some false) else ((Bu F (mosaic_Node.mk (mosaic_Spec.mk (api_Grid.mk a2.2.2.spec.Grid.X a2.2.2.spec.Grid.Y a2.2.2.spec.Grid.Size a2.2.2.spec.Grid.Wide a2.2.2.spec.Grid.High) (api_Span.mk a2.2.2.spec.Earth.Lo a2.2.2.spec.Earth.Hi) a2.2.2.spec.Radars a2.2.2.spec.Age) a2.2.2.radars a2.2.2.horizon a2.2.2.kept a2.2.2.count a8.2.2) (mosaic_Node.mk (mosaic_Spec.mk (api_Grid.mk a0.2.2.spec.Grid.X a0.2.2.spec.Grid.Y a0.2.2.spec.Grid.Size a0.2.2.spec.Grid.Wide a0.2.2.spec.Grid.High) (api_Span.mk a0.2.2.spec.Earth.Lo a0.2.2.spec.Earth.Hi) a0.2.2.spec.Radars a0.2.2.spec.Age) a0.2.2.radars a0.2.2.horizon a0.2.2.kept a0.2.2.count a9.2.1)).bind fun a3 =>
  (Cg F (mosaic_Node.mk (mosaic_Spec.mk (api_Grid.mk a3.2.2.spec.Grid.X a3.2.2.spec.Grid.Y a3.2.2.spec.Grid.Size a3.2.2.spec.Grid.Wide a3.2.2.spec.Grid.High) (api_Span.mk a3.2.2.spec.Earth.Lo a3.2.2.spec.Earth.Hi) a3.2.2.spec.Radars a3.2.2.spec.Age) a3.2.2.radars a3.2.2.horizon a3.2.2.kept a3.2.2.count a3.2.2.looks)).bind fun a4 =>
  bif (bif (bif (bif (a3.1==0) then (a3.2.1==0) else false) then (a4.1==0) else false) then (a4.2.1==0) else false) then ((Dg F (mosaic_Node.mk (mosaic_Spec.mk (api_Grid.mk a0.2.2.spec.Grid.X a0.2.2.spec.Grid.Y a0.2.2.spec.Grid.Size a0.2.2.spec.Grid.Wide a0.2.2.spec.Grid.High) (api_Span.mk a0.2.2.spec.Earth.Lo a0.2.2.spec.Earth.Hi) a0.2.2.spec.Radars a0.2.2.spec.Age) a0.2.2.radars a0.2.2.horizon a0.2.2.kept a0.2.2.count a9.2.1) (mosaic_Node.mk (mosaic_Spec.mk (api_Grid.mk a4.2.2.spec.Grid.X a4.2.2.spec.Grid.Y a4.2.2.spec.Grid.Size a4.2.2.spec.Grid.Wide a4.2.2.spec.Grid.High) (api_Span.mk a4.2.2.spec.Earth.Lo a4.2.2.spec.Earth.Hi) a4.2.2.spec.Radars a4.2.2.spec.Age) a4.2.2.radars a4.2.2.horizon a4.2.2.kept a4.2.2.count a4.2.2.looks) p4).bind fun aP =>
  (gd ((aP.1==true&&true)) (law11_works F) default).bind fun bJ =>
  some (bif aP.1 then bJ else false)) else (some false)))))
def Ei (F:Nat) (p1:(List law11_Post)) (p4:(List Int)) (bA:mosaic_Spec) (aD:Int) (b8:(Int×Int×mosaic_Node)) (aE:Int) (aF:Int) (aG:Int) (aH:Int) (aI:Int) (aJ:Int) (aK:Int) (aL:Int) (aM:Int) (a1:(List mosaic_Radar)) (aN:Int) (aO:Int) (aP:Int) (aQ:Int) (aR:Int) (aS:Int) (aT:Int) (aU:Int) (aV:Int) (aW:Int) (a2:(List mosaic_Radar)) (aX:Int) (aY:Int) (aZ:Int) (b0:Int) (b1:Int) (b2:Int) (b3:Int) (b4:Int) (b5:Int) (b6:Int) (a3:(List mosaic_Radar)) (b7:Int) (a4:(List (ByteArray×mosaic_Radar))) (a5:(List (mosaic_Key×(List (List api_Span))))) (a6:(List (mosaic_where×(List api_Span)))) (a7:(List (ByteArray×mosaic_Radar))) (a8:(List (mosaic_Key×(List (List api_Span))))) (a9:(List (mosaic_where×(List api_Span)))) (aA:(List (ByteArray×mosaic_Radar))) (aB:(List (mosaic_Key×(List (List api_Span))))) (aC:(List (mosaic_where×(List api_Span)))):Option Bool :=
  bif (decide (((p1.length:Nat):Int)>0)) then ((Bj p1 0).bind fun b9 =>
  (Eb F b9 bA).bind fun bB =>
  (Bd F (mosaic_Node.mk (mosaic_Spec.mk (api_Grid.mk aE aF aI aJ aK) (api_Span.mk aL aM) a1 aN) a4 aG a5 aH a6) bB).bind fun a0 =>
  Dm F p4 aD b8 aO aP aQ aR aS aT aU aV aW a2 aX aY aZ b0 b1 b2 b3 b4 b5 b6 a3 b7 a7 a8 a9 aA aB aC a0.2.2.spec.Grid.X a0.2.2.spec.Grid.Y a0.2.2.horizon a0.2.2.count a0.2.2.spec.Grid.Size a0.2.2.spec.Grid.Wide a0.2.2.spec.Grid.High a0.2.2.spec.Earth.Lo a0.2.2.spec.Earth.Hi a0.2.2.spec.Radars a0.2.2.spec.Age a0.2.2.radars a0.2.2.kept a0.2.2.looks) else (Dm F p4 aD b8 aO aP aQ aR aS aT aU aV aW a2 aX aY aZ b0 b1 b2 b3 b4 b5 b6 a3 b7 a7 a8 a9 aA aB aC aE aF aG aH aI aJ aK aL aM a1 aN a4 a5 a6)
def Dn (aC:Int) (k5:(Int→Int→Int→Int→Int→Int→Int→Int→Int→(List mosaic_Radar)→Int→Int→Int→Int→Int→Int→Int→Int→Int→Int→(List mosaic_Radar)→Int→Int→Int→Int→Int→Int→Int→Int→Int→Int→(List mosaic_Radar)→Int→(List (ByteArray×mosaic_Radar))→(List (mosaic_Key×(List (List api_Span))))→(List (mosaic_where×(List api_Span)))→(List (ByteArray×mosaic_Radar))→(List (mosaic_Key×(List (List api_Span))))→(List (mosaic_where×(List api_Span)))→(List (ByteArray×mosaic_Radar))→(List (mosaic_Key×(List (List api_Span))))→(List (mosaic_where×(List api_Span)))→Int→Option Bool)) (aD:Int) (aE:Int) (aF:Int) (aG:Int) (aH:Int) (aI:Int) (aJ:Int) (aK:Int) (aL:Int) (a0:(List mosaic_Radar)) (aM:Int) (aN:Int) (aO:Int) (aP:Int) (aQ:Int) (aR:Int) (aS:Int) (aT:Int) (aU:Int) (aV:Int) (a1:(List mosaic_Radar)) (aW:Int) (aX:Int) (aY:Int) (aZ:Int) (b0:Int) (b1:Int) (b2:Int) (b3:Int) (b4:Int) (b5:Int) (a2:(List mosaic_Radar)) (b6:Int) (a3:(List (ByteArray×mosaic_Radar))) (a4:(List (mosaic_Key×(List (List api_Span))))) (a5:(List (mosaic_where×(List api_Span)))) (a6:(List (ByteArray×mosaic_Radar))) (a7:(List (mosaic_Key×(List (List api_Span))))) (a8:(List (mosaic_where×(List api_Span)))) (a9:(List (ByteArray×mosaic_Radar))) (aA:(List (mosaic_Key×(List (List api_Span))))) (aB:(List (mosaic_where×(List api_Span)))):Option Bool :=
  (ck (aC+1)).bind fun b7 =>
  k5 aD aE aF aG aH aI aJ aK aL a0 aM aN aO aP aQ aR aS aT aU aV a1 aW aX aY aZ b0 b1 b2 b3 b4 b5 a2 b6 a3 a4 a5 a6 a7 a8 a9 aA aB b7
def Do (F:Nat) (p3:(List Bool)) (aG:(List Int)) (aH:Int) (aI:Int) (aJ:Int) (aK:Int) (aL:Int) (aM:Int) (aN:Int) (aO:Int) (aP:Int) (a4:(List mosaic_Radar)) (aQ:Int) (aR:Int) (aS:Int) (aT:Int) (aU:Int) (aV:Int) (aW:Int) (aX:Int) (aY:Int) (aZ:Int) (a5:(List mosaic_Radar)) (b0:Int) (a6:(List (ByteArray×mosaic_Radar))) (a7:(List (mosaic_Key×(List (List api_Span))))) (a8:(List (mosaic_where×(List api_Span)))) (a9:(List (ByteArray×mosaic_Radar))) (aA:(List (mosaic_Key×(List (List api_Span))))) (aB:(List (mosaic_where×(List api_Span)))) (a2:Int) (k5:(Int→Int→Int→Int→Int→Int→Int→Int→Int→(List mosaic_Radar)→Int→Int→Int→Int→Int→Int→Int→Int→Int→Int→(List mosaic_Radar)→Int→Int→Int→Int→Int→Int→Int→Int→Int→Int→(List mosaic_Radar)→Int→(List (ByteArray×mosaic_Radar))→(List (mosaic_Key×(List (List api_Span))))→(List (mosaic_where×(List api_Span)))→(List (ByteArray×mosaic_Radar))→(List (mosaic_Key×(List (List api_Span))))→(List (mosaic_where×(List api_Span)))→(List (ByteArray×mosaic_Radar))→(List (mosaic_Key×(List (List api_Span))))→(List (mosaic_where×(List api_Span)))→Int→Option Bool)) (bB:mosaic_Message) (b1:Int) (b2:Int) (b3:Int) (b4:Int) (b5:Int) (b6:Int) (b7:Int) (b8:Int) (b9:Int) (aC:(List mosaic_Radar)) (bA:Int) (aD:(List (ByteArray×mosaic_Radar))) (aE:(List (mosaic_Key×(List (List api_Span))))) (aF:(List (mosaic_where×(List api_Span)))):Option Bool :=
  (Bj aG a2).bind fun a3 =>
  (gd (((decide (a3<((p3.length:Nat):Int)))==true&&true)) (Bj aG a2) default).bind fun bC =>
  (gd (((decide (a3<((p3.length:Nat):Int)))==true&&true)) (Bj p3 bC) default).bind fun bD =>
  bif (bif (decide (a3<((p3.length:Nat):Int))) then bD else false) then ((Bd F (mosaic_Node.mk (mosaic_Spec.mk (api_Grid.mk aH aI aL aM aN) (api_Span.mk aO aP) a4 aQ) a6 aJ a7 aK a8) bB).bind fun a0 =>
  Dn a2 k5 a0.2.2.spec.Grid.X a0.2.2.spec.Grid.Y a0.2.2.horizon a0.2.2.count a0.2.2.spec.Grid.Size a0.2.2.spec.Grid.Wide a0.2.2.spec.Grid.High a0.2.2.spec.Earth.Lo a0.2.2.spec.Earth.Hi a0.2.2.spec.Radars a0.2.2.spec.Age aR aS aT aU aV aW aX aY aZ a5 b0 b1 b2 b3 b4 b5 b6 b7 b8 b9 aC bA a0.2.2.radars a0.2.2.kept a0.2.2.looks a9 aA aB aD aE aF) else ((Bd F (mosaic_Node.mk (mosaic_Spec.mk (api_Grid.mk aR aS aV aW aX) (api_Span.mk aY aZ) a5 b0) a9 aT aA aU aB) bB).bind fun a1 =>
  Dn a2 k5 aH aI aJ aK aL aM aN aO aP a4 aQ a1.2.2.spec.Grid.X a1.2.2.spec.Grid.Y a1.2.2.horizon a1.2.2.count a1.2.2.spec.Grid.Size a1.2.2.spec.Grid.Wide a1.2.2.spec.Grid.High a1.2.2.spec.Earth.Lo a1.2.2.spec.Earth.Hi a1.2.2.spec.Radars a1.2.2.spec.Age b1 b2 b3 b4 b5 b6 b7 b8 b9 aC bA a6 a7 a8 a1.2.2.radars a1.2.2.kept a1.2.2.looks aD aE aF)
def G3 (F:Nat) (p1:(List law11_Post)) (p2:(List Int)) (p3:(List Bool)) (p4:(List Int)) (bC:mosaic_Spec) (b1:Int) (a4:(List Int)) (bH:(Int×Int×mosaic_Node)) (k5:(Int→Int→Int→Int→Int→Int→Int→Int→Int→(List mosaic_Radar)→Int→Int→Int→Int→Int→Int→Int→Int→Int→Int→(List mosaic_Radar)→Int→Int→Int→Int→Int→Int→Int→Int→Int→Int→(List mosaic_Radar)→Int→(List (ByteArray×mosaic_Radar))→(List (mosaic_Key×(List (List api_Span))))→(List (mosaic_where×(List api_Span)))→(List (ByteArray×mosaic_Radar))→(List (mosaic_Key×(List (List api_Span))))→(List (mosaic_where×(List api_Span)))→(List (ByteArray×mosaic_Radar))→(List (mosaic_Key×(List (List api_Span))))→(List (mosaic_where×(List api_Span)))→Int→Option Bool)) (aD:Int) (aE:Int) (aF:Int) (aG:Int) (aH:Int) (aI:Int) (aJ:Int) (aK:Int) (aL:Int) (a5:(List mosaic_Radar)) (aM:Int) (aN:Int) (aO:Int) (aP:Int) (aQ:Int) (aR:Int) (aS:Int) (aT:Int) (aU:Int) (aV:Int) (a6:(List mosaic_Radar)) (aW:Int) (b2:Int) (b3:Int) (b4:Int) (b5:Int) (b6:Int) (b7:Int) (b8:Int) (b9:Int) (bA:Int) (aX:(List mosaic_Radar)) (bB:Int) (a7:(List (ByteArray×mosaic_Radar))) (a8:(List (mosaic_Key×(List (List api_Span))))) (a9:(List (mosaic_where×(List api_Span)))) (aA:(List (ByteArray×mosaic_Radar))) (aB:(List (mosaic_Key×(List (List api_Span))))) (aC:(List (mosaic_where×(List api_Span)))) (aY:(List (ByteArray×mosaic_Radar))) (aZ:(List (mosaic_Key×(List (List api_Span))))) (b0:(List (mosaic_where×(List api_Span)))) (a2:Int):Option Bool :=
  bif (decide (a2<((a4.length:Nat):Int))) then ((Bj a4 a2).bind fun bD =>
  (Bj p1 bD).bind fun bE =>
  (Eb F bE bC).bind fun a3 =>
  (Bd F (mosaic_Node.mk (mosaic_Spec.mk (api_Grid.mk b2 b3 b6 b7 b8) (api_Span.mk b9 bA) aX bB) aY b4 aZ b5 b0) a3).bind fun a0 =>
  bif (bif (!((a0.2.1==0)==(decide (a3.Key.Time≥b1)))) then true else (bif (a0.2.1 != 0) then (bif a0.1 then true else (a0.2.1 != 17)) else false)) then (some false) else ((gd (((decide (a2<((p2.length:Nat):Int)))==true&&true)) (Bj p2 a2) default).bind fun bF =>
  (gd (((decide (a2<((p2.length:Nat):Int)))==true&&true)) (E4 bF 2) 0).bind fun bG =>
  bif (bif (decide (a2<((p2.length:Nat):Int))) then (bG==0) else false) then ((Bd F (mosaic_Node.mk (mosaic_Spec.mk (api_Grid.mk a0.2.2.spec.Grid.X a0.2.2.spec.Grid.Y a0.2.2.spec.Grid.Size a0.2.2.spec.Grid.Wide a0.2.2.spec.Grid.High) (api_Span.mk a0.2.2.spec.Earth.Lo a0.2.2.spec.Earth.Hi) a0.2.2.spec.Radars a0.2.2.spec.Age) a0.2.2.radars a0.2.2.horizon a0.2.2.kept a0.2.2.count a0.2.2.looks) a3).bind fun a1 =>
  bif (bif a1.1 then true else (a1.2.1 != a0.2.1)) then (some false) else (Do F p3 a4 aD aE aF aG aH aI aJ aK aL a5 aM aN aO aP aQ aR aS aT aU aV a6 aW a7 a8 a9 aA aB aC a2 k5 a3 a1.2.2.spec.Grid.X a1.2.2.spec.Grid.Y a1.2.2.horizon a1.2.2.count a1.2.2.spec.Grid.Size a1.2.2.spec.Grid.Wide a1.2.2.spec.Grid.High a1.2.2.spec.Earth.Lo a1.2.2.spec.Earth.Hi a1.2.2.spec.Radars a1.2.2.spec.Age a1.2.2.radars a1.2.2.kept a1.2.2.looks)) else (Do F p3 a4 aD aE aF aG aH aI aJ aK aL a5 aM aN aO aP aQ aR aS aT aU aV a6 aW a7 a8 a9 aA aB aC a2 k5 a3 a0.2.2.spec.Grid.X a0.2.2.spec.Grid.Y a0.2.2.horizon a0.2.2.count a0.2.2.spec.Grid.Size a0.2.2.spec.Grid.Wide a0.2.2.spec.Grid.High a0.2.2.spec.Earth.Lo a0.2.2.spec.Earth.Hi a0.2.2.spec.Radars a0.2.2.spec.Age a0.2.2.radars a0.2.2.kept a0.2.2.looks))) else (Ei F p1 p4 bC b1 bH aD aE aF aG aH aI aJ aK aL a5 aM aN aO aP aQ aR aS aT aU aV a6 aW b2 b3 b4 b5 b6 b7 b8 b9 bA aX bB a7 a8 a9 aA aB aC aY aZ b0)
def Ch (F:Nat) (p1:(List law11_Post)) (p2:(List Int)) (p3:(List Bool)) (p4:(List Int)) (a2:mosaic_Spec) (a1:Int) (a0:(List Int)) (a3:(Int×Int×mosaic_Node)):Nat→Int→Int→Int→Int→Int→Int→Int→Int→Int→(List mosaic_Radar)→Int→Int→Int→Int→Int→Int→Int→Int→Int→Int→(List mosaic_Radar)→Int→Int→Int→Int→Int→Int→Int→Int→Int→Int→(List mosaic_Radar)→Int→(List (ByteArray×mosaic_Radar))→(List (mosaic_Key×(List (List api_Span))))→(List (mosaic_where×(List api_Span)))→(List (ByteArray×mosaic_Radar))→(List (mosaic_Key×(List (List api_Span))))→(List (mosaic_where×(List api_Span)))→(List (ByteArray×mosaic_Radar))→(List (mosaic_Key×(List (List api_Span))))→(List (mosaic_where×(List api_Span)))→Int→Option Bool
  | 0,_,_,_,_,_,_,_,_,_,_,_,_,_,_,_,_,_,_,_,_,_,_,_,_,_,_,_,_,_,_,_,_,_,_,_,_,_,_,_,_,_,_,_=>none
  | n+1,aG,aH,aI,aJ,aK,aL,aM,aN,aO,a4,aP,aQ,aR,aS,aT,aU,aV,aW,aX,aY,a5,aZ,b0,b1,b2,b3,b4,b5,b6,b7,b8,a6,b9,a7,a8,a9,aA,aB,aC,aD,aE,aF,bA=>G3 F p1 p2 p3 p4 a2 a1 a0 a3 (Ch F p1 p2 p3 p4 a2 a1 a0 a3 n) aG aH aI aJ aK aL aM aN aO a4 aP aQ aR aS aT aU aV aW aX aY a5 aZ b0 b1 b2 b3 b4 b5 b6 b7 b8 a6 b9 a7 a8 a9 aA aB aC aD aE aF bA
def Eh (F:Nat) (p1:(List law11_Post)) (p2:(List Int)) (p3:(List Bool)) (p4:(List Int)) (aK:mosaic_Spec) (a3:(mosaic_Node×Int)) (a0:(mosaic_Node×Int)) (a1:(mosaic_Node×Int)) (a4:Int) (aA:Int) (aB:Int) (aC:Int) (aD:Int) (aE:Int) (aF:Int) (aG:Int) (aH:Int) (aI:Int) (a5:(List mosaic_Radar)) (aJ:Int) (a6:(List (ByteArray×mosaic_Radar))) (a7:(List (mosaic_Key×(List (List api_Span))))) (a8:(List (mosaic_where×(List api_Span)))) (a9:(List Int)):Option Bool :=
  (Bf F (mosaic_Node.mk (mosaic_Spec.mk (api_Grid.mk aA aB aE aF aG) (api_Span.mk aH aI) a5 aJ) a6 aC a7 aD a8) a4).bind fun aL =>
  (Bf F (mosaic_Node.mk (mosaic_Spec.mk (api_Grid.mk a3.1.spec.Grid.X a3.1.spec.Grid.Y a3.1.spec.Grid.Size a3.1.spec.Grid.Wide a3.1.spec.Grid.High) (api_Span.mk a3.1.spec.Earth.Lo a3.1.spec.Earth.Hi) a3.1.spec.Radars a3.1.spec.Age) a3.1.radars a3.1.horizon a3.1.kept a3.1.count a3.1.looks) a4).bind fun a2 =>
  Ch F p1 p2 p3 p4 aK a4 a9 aL F a0.1.spec.Grid.X a0.1.spec.Grid.Y a0.1.horizon a0.1.count a0.1.spec.Grid.Size a0.1.spec.Grid.Wide a0.1.spec.Grid.High a0.1.spec.Earth.Lo a0.1.spec.Earth.Hi a0.1.spec.Radars a0.1.spec.Age a1.1.spec.Grid.X a1.1.spec.Grid.Y a1.1.horizon a1.1.count a1.1.spec.Grid.Size a1.1.spec.Grid.Wide a1.1.spec.Grid.High a1.1.spec.Earth.Lo a1.1.spec.Earth.Hi a1.1.spec.Radars a1.1.spec.Age a2.2.2.spec.Grid.X a2.2.2.spec.Grid.Y a2.2.2.horizon a2.2.2.count a2.2.2.spec.Grid.Size a2.2.2.spec.Grid.Wide a2.2.2.spec.Grid.High a2.2.2.spec.Earth.Lo a2.2.2.spec.Earth.Hi a2.2.2.spec.Radars a2.2.2.spec.Age a0.1.radars a0.1.kept a0.1.looks a1.1.radars a1.1.kept a1.1.looks a2.2.2.radars a2.2.2.kept a2.2.2.looks 0
def G4 (F:Nat) (p1:(List law11_Post)) (p2:(List Int)) (p3:(List Bool)) (p4:(List Int)) (aS:mosaic_Spec) (aT:(mosaic_Node×Int)) (aQ:(mosaic_Node×Int)) (aR:(mosaic_Node×Int)) (aD:Int) (aG:Int) (aH:Int) (aI:Int) (aJ:Int) (aK:Int) (aL:Int) (aM:Int) (aN:Int) (aO:Int) (a6:(List mosaic_Radar)) (aP:Int) (a7:(List (ByteArray×mosaic_Radar))) (a8:(List (mosaic_Key×(List (List api_Span))))) (a9:(List (mosaic_where×(List api_Span)))) (k8:((List Int)→Int→Option Bool)) (a0:(List Int)) (a1:Int):Option Bool :=
  bif (bif (decide (a1<((p2.length:Nat):Int))) then (decide (((a0.length:Nat):Int)>0)) else false) then ((E4 a1 ((a0.length:Nat):Int)).bind fun a2 =>
  (Bj p2 a1).bind fun aA =>
  (ck aA).bind fun aE =>
  (E4 aE ((a0.length:Nat):Int)).bind fun a3 =>
  (Bj a0 a3).bind fun aB =>
  (Bj a0 a2).bind fun aC =>
  (Bj a0 a2).bind fun aU =>
  (Ub a0 a2 aB).bind fun a4 =>
  (Bj a4 a3).bind fun aV =>
  (Ub a4 a3 aC).bind fun a5 =>
  (ck (a1+1)).bind fun aF =>
  k8 a5 aF) else (Eh F p1 p2 p3 p4 aS aT aQ aR aD aG aH aI aJ aK aL aM aN aO a6 aP a7 a8 a9 a0)
def Dp (F:Nat) (p1:(List law11_Post)) (p2:(List Int)) (p3:(List Bool)) (p4:(List Int)) (aH:mosaic_Spec) (aI:(mosaic_Node×Int)) (aF:(mosaic_Node×Int)) (aG:(mosaic_Node×Int)) (a4:Int) (a5:Int) (a6:Int) (a7:Int) (a8:Int) (a9:Int) (aA:Int) (aB:Int) (aC:Int) (aD:Int) (a0:(List mosaic_Radar)) (aE:Int) (a1:(List (ByteArray×mosaic_Radar))) (a2:(List (mosaic_Key×(List (List api_Span))))) (a3:(List (mosaic_where×(List api_Span)))):Nat→(List Int)→Int→Option Bool
  | 0,_,_=>none
  | n+1,aJ,aK=>G4 F p1 p2 p3 p4 aH aI aF aG a4 a5 a6 a7 a8 a9 aA aB aC aD a0 aE a1 a2 a3 (Dp F p1 p2 p3 p4 aH aI aF aG a4 a5 a6 a7 a8 a9 aA aB aC aD a0 aE a1 a2 a3 n) aJ aK
def G6 (F:Nat) (p1:(List law11_Post)) (p2:(List Int)) (p3:(List Bool)) (p4:(List Int)) (aI:mosaic_Spec) (aJ:(mosaic_Node×Int)) (aG:(mosaic_Node×Int)) (aH:(mosaic_Node×Int)) (a5:Int) (a6:Int) (a7:Int) (a8:Int) (a9:Int) (aA:Int) (aB:Int) (aC:Int) (aD:Int) (aE:Int) (a0:(List mosaic_Radar)) (aF:Int) (a1:(List (ByteArray×mosaic_Radar))) (a2:(List (mosaic_Key×(List (List api_Span))))) (a3:(List (mosaic_where×(List api_Span)))) (a4:(List Int)):Option Bool :=
  Dp F p1 p2 p3 p4 aI aJ aG aH a5 a6 a7 a8 a9 aA aB aC aD aE a0 aF a1 a2 a3 F a4 0
def G5 (F:Nat) (p1:(List law11_Post)) (p2:(List Int)) (p3:(List Bool)) (p4:(List Int)) (aH:mosaic_Spec) (aP:(mosaic_Node×Int)) (aM:(mosaic_Node×Int)) (aN:(mosaic_Node×Int)) (aK:Int) (k9:(Int→Int→Int→Int→Int→Int→Int→Int→Int→(List mosaic_Radar)→Int→(List (ByteArray×mosaic_Radar))→(List (mosaic_Key×(List (List api_Span))))→(List (mosaic_where×(List api_Span)))→(List Int)→Int→Option Bool)) (a7:Int) (a8:Int) (a9:Int) (aA:Int) (aB:Int) (aC:Int) (aD:Int) (aE:Int) (aF:Int) (a2:(List mosaic_Radar)) (aG:Int) (a3:(List (ByteArray×mosaic_Radar))) (a4:(List (mosaic_Key×(List (List api_Span))))) (a5:(List (mosaic_where×(List api_Span)))) (a6:(List Int)) (a1:Int):Option Bool :=
  bif (decide (a1<((p1.length:Nat):Int))) then ((Bj p1 a1).bind fun aJ =>
  (Eb F aJ aH).bind fun aO =>
  (Bd F (mosaic_Node.mk (mosaic_Spec.mk (api_Grid.mk a7 a8 aB aC aD) (api_Span.mk aE aF) a2 aG) a3 a9 a4 aA a5) aO).bind fun a0 =>
  bif (a0.2.1 != 0) then (some false) else ((apd 8 a6 ([a1])).bind fun aI =>
  (ck (a1+1)).bind fun aL =>
  k9 a0.2.2.spec.Grid.X a0.2.2.spec.Grid.Y a0.2.2.horizon a0.2.2.count a0.2.2.spec.Grid.Size a0.2.2.spec.Grid.Wide a0.2.2.spec.Grid.High a0.2.2.spec.Earth.Lo a0.2.2.spec.Earth.Hi a0.2.2.spec.Radars a0.2.2.spec.Age a0.2.2.radars a0.2.2.kept a0.2.2.looks aI aL)) else (G6 F p1 p2 p3 p4 aH aP aM aN aK a7 a8 a9 aA aB aC aD aE aF a2 aG a3 a4 a5 a6)
def Dq (F:Nat) (p1:(List law11_Post)) (p2:(List Int)) (p3:(List Bool)) (p4:(List Int)) (a3:mosaic_Spec) (a4:(mosaic_Node×Int)) (a1:(mosaic_Node×Int)) (a2:(mosaic_Node×Int)) (a0:Int):Nat→Int→Int→Int→Int→Int→Int→Int→Int→Int→(List mosaic_Radar)→Int→(List (ByteArray×mosaic_Radar))→(List (mosaic_Key×(List (List api_Span))))→(List (mosaic_where×(List api_Span)))→(List Int)→Int→Option Bool
  | 0,_,_,_,_,_,_,_,_,_,_,_,_,_,_,_,_=>none
  | n+1,aA,aB,aC,aD,aE,aF,aG,aH,aI,a5,aJ,a6,a7,a8,a9,aK=>G5 F p1 p2 p3 p4 a3 a4 a1 a2 a0 (Dq F p1 p2 p3 p4 a3 a4 a1 a2 a0 n) aA aB aC aD aE aF aG aH aI a5 aJ a6 a7 a8 a9 aK
def Gk (F:Nat) (p0:law11_Net) (p1:(List law11_Post)) (p2:(List Int)) (p3:(List Bool)) (p4:(List Int)) (p5:Int):Option Bool :=
  bif (bif (decide (((p1.length:Nat):Int)>20)) then true else (decide (((p4.length:Nat):Int)>10))) then ((law11_works F).bind fun a8 =>
  some a8) else ((Fo F (law11_Net.mk p0.Wide p0.High ((law11_Station.mk p0.Stations.1.X p0.Stations.1.Y p0.Stations.1.Z p0.Stations.1.Rose p0.Stations.1.Gates p0.Stations.1.Width p0.Stations.1.Lo p0.Stations.1.Hi),(law11_Station.mk p0.Stations.2.1.X p0.Stations.2.1.Y p0.Stations.2.1.Z p0.Stations.2.1.Rose p0.Stations.2.1.Gates p0.Stations.2.1.Width p0.Stations.2.1.Lo p0.Stations.2.1.Hi),(law11_Station.mk p0.Stations.2.2.X p0.Stations.2.2.Y p0.Stations.2.2.Z p0.Stations.2.2.Rose p0.Stations.2.2.Gates p0.Stations.2.2.Width p0.Stations.2.2.Lo p0.Stations.2.2.Hi)) p0.Count p0.Age)).bind fun a1 =>
  (Ga F a1).bind fun a9 =>
  exc a9 (fun aE=>none) (fun a0=>(Ga F a1).bind fun aA =>
  exc aA (fun aF=>none) (fun a4=>(Ga F a1).bind fun aB =>
  exc aB (fun aC=>none) (fun a2=>(Ga F a1).bind fun a7 =>
  exc a7 (fun aD=>none) (fun a3=>bif (bif (bif (bif (a0.2 != 0) then true else (a4.2 != 0)) then true else (a2.2 != 0)) then true else (a3.2 != 0)) then (some false) else ((ck p5).bind fun a5 =>
  (E4 a5 2500).bind fun a6 =>
  Dq F p1 p2 p3 p4 a1 a4 a2 a3 a6 F a0.1.spec.Grid.X a0.1.spec.Grid.Y a0.1.horizon a0.1.count a0.1.spec.Grid.Size a0.1.spec.Grid.Wide a0.1.spec.Grid.High a0.1.spec.Earth.Lo a0.1.spec.Earth.Hi a0.1.spec.Radars a0.1.spec.Age a0.1.radars a0.1.kept a0.1.looks ([]) 0))))))
end Go.Proofs.YtkbjbnkkfifbmaaGreat
