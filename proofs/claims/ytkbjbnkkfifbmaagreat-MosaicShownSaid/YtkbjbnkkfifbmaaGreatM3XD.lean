import Derived.Test.YtkbjbnkkfifbmaaGreatM3EB
namespace Go.Proofs.YtkbjbnkkfifbmaaGreat
open Go Go.RowKit Go.Eng
set_option maxRecDepth 10000
set_option maxHeartbeats 4000000
set_option linter.unusedVariables false
set_option linter.unusedSimpArgs false
structure api_Grid where
  X:Int
  Y:Int
  Size:Int
  Wide:Int
  High:Int
  deriving Inhabited,DecidableEq
def api_Grid.cells (x:api_Grid):List Value:=[.int .i64 x.X,.int .i64 x.Y,.int .i64 x.Size,.int .i64 x.Wide,.int .i64 x.High]
structure api_Span where
  Lo:Int
  Hi:Int
  deriving Inhabited,DecidableEq
def api_Span.cells (x:api_Span):List Value:=[.int .i64 x.Lo,.int .i64 x.Hi]
theorem api_Span.cells_len (x:api_Span):(api_Span.cells x).length=2:=rfl
structure api_Site where
  Name:ByteArray
  X:Int
  Y:Int
  Z:Int
  Rose:Int
  Gates:Int
  Step:Int
  Width:Int
  deriving Inhabited,DecidableEq
def api_Site.cells (x:api_Site):List Value:=[.string x.Name,.int .i64 x.X,.int .i64 x.Y,.int .i64 x.Z,.int .i64 x.Rose,.int .i64 x.Gates,.int .i64 x.Step,.int .i64 x.Width]
structure mosaic_Radar where
  Site:api_Site
  Offset:api_Span
  deriving Inhabited,DecidableEq
def mosaic_Radar.cells (x:mosaic_Radar):List Value:=[.string x.Site.Name,.int .i64 x.Site.X,.int .i64 x.Site.Y,.int .i64 x.Site.Z,.int .i64 x.Site.Rose,.int .i64 x.Site.Gates,.int .i64 x.Site.Step,.int .i64 x.Site.Width,.int .i64 x.Offset.Lo,.int .i64 x.Offset.Hi]
theorem mosaic_Radar.cells_len (x:mosaic_Radar):(mosaic_Radar.cells x).length=10:=rfl
structure mosaic_Spec where
  Grid:api_Grid
  Earth:api_Span
  Radars:(List mosaic_Radar)
  Age:Int
  deriving Inhabited,DecidableEq
structure mosaic_Key where
  Name:ByteArray
  Tilt:Int
  Time:Int
  deriving Inhabited,DecidableEq
def mosaic_Key.cells (x:mosaic_Key):List Value:=[.string x.Name,.int .i64 x.Tilt,.int .i64 x.Time]
theorem mosaic_Key.cells_len (x:mosaic_Key):(mosaic_Key.cells x).length=3:=rfl
structure mosaic_where where
  name:ByteArray
  tilt:Int
  deriving Inhabited,DecidableEq
def mosaic_where.cells (x:mosaic_where):List Value:=[.string x.name,.int .i64 x.tilt]
structure mosaic_Node where
  spec:mosaic_Spec
  radars:(List (ByteArray×mosaic_Radar))
  horizon:Int
  kept:(List (mosaic_Key×(List (List api_Span))))
  count:Int
  looks:(List (mosaic_where×(List api_Span)))
  deriving Inhabited,DecidableEq
structure mosaic_Message where
  Key:mosaic_Key
  Vals:(List api_Span)
  deriving Inhabited,DecidableEq
structure beam_slant where
  c:Int
  s:Int
  d:Int
  deriving Inhabited,DecidableEq
def beam_slant.cells (x:beam_slant):List Value:=[.int .i64 x.c,.int .i64 x.s,.int .i64 x.d]
structure beam_vector where
  x:Int
  y:Int
  length:Int
  deriving Inhabited,DecidableEq
def beam_vector.cells (x:beam_vector):List Value:=[.int .i64 x.x,.int .i64 x.y,.int .i64 x.length]
structure mosaic_used where
  Key:mosaic_Key
  vals:(List api_Span)
  bands:(List api_Span)
  deriving Inhabited,DecidableEq
structure mosaic_Pixel where
  Value_:api_Span
  Key:mosaic_Key
  deriving Inhabited,DecidableEq
def mosaic_Pixel.cells (x:mosaic_Pixel):List Value:=[.int .i64 x.Value_.Lo,.int .i64 x.Value_.Hi,.string x.Key.Name,.int .i64 x.Key.Tilt,.int .i64 x.Key.Time]
theorem mosaic_Pixel.cells_len (x:mosaic_Pixel):(mosaic_Pixel.cells x).length=5:=rfl
structure law11_Station where
  X:Int
  Y:Int
  Z:Int
  Rose:Int
  Gates:Int
  Width:Int
  Lo:Int
  Hi:Int
  deriving Inhabited,DecidableEq
def law11_Station.cells (x:law11_Station):List Value:=[.int .i16 x.X,.int .i16 x.Y,.int .u16 x.Z,.int .u8 x.Rose,.int .u8 x.Gates,.int .u8 x.Width,.int .u16 x.Lo,.int .u16 x.Hi]
structure law11_Net where
  Wide:Int
  High:Int
  Stations:(law11_Station×law11_Station×law11_Station)
  Count:Int
  Age:Int
  deriving Inhabited,DecidableEq
def law11_Net.cells (x:law11_Net):List Value:=[.int .u8 x.Wide,.int .u8 x.High,.int .i16 x.Stations.1.X,.int .i16 x.Stations.1.Y,.int .u16 x.Stations.1.Z,.int .u8 x.Stations.1.Rose,.int .u8 x.Stations.1.Gates,.int .u8 x.Stations.1.Width,.int .u16 x.Stations.1.Lo,.int .u16 x.Stations.1.Hi,.int .i16 x.Stations.2.1.X,.int .i16 x.Stations.2.1.Y,.int .u16 x.Stations.2.1.Z,.int .u8 x.Stations.2.1.Rose,.int .u8 x.Stations.2.1.Gates,.int .u8 x.Stations.2.1.Width,.int .u16 x.Stations.2.1.Lo,.int .u16 x.Stations.2.1.Hi,.int .i16 x.Stations.2.2.X,.int .i16 x.Stations.2.2.Y,.int .u16 x.Stations.2.2.Z,.int .u8 x.Stations.2.2.Rose,.int .u8 x.Stations.2.2.Gates,.int .u8 x.Stations.2.2.Width,.int .u16 x.Stations.2.2.Lo,.int .u16 x.Stations.2.2.Hi,.int .u8 x.Count,.int .u16 x.Age]
structure law11_Post where
  Radar:Int
  Tilt:Int
  Time:Int
  Vals:(List Int)
  Wide:Int
  deriving Inhabited,DecidableEq
abbrev api_Grid.ar (x:api_Grid):Array Value:=#[.int .i64 x.X,.int .i64 x.Y,.int .i64 x.Size,.int .i64 x.Wide,.int .i64 x.High]
abbrev api_Grid.ag (x:api_Grid):Value:=.agg #[.int .i64 x.X,.int .i64 x.Y,.int .i64 x.Size,.int .i64 x.Wide,.int .i64 x.High]
abbrev api_Site.ar (x:api_Site):Array Value:=#[.string x.Name,.int .i64 x.X,.int .i64 x.Y,.int .i64 x.Z,.int .i64 x.Rose,.int .i64 x.Gates,.int .i64 x.Step,.int .i64 x.Width]
abbrev api_Site.ag (x:api_Site):Value:=.agg #[.string x.Name,.int .i64 x.X,.int .i64 x.Y,.int .i64 x.Z,.int .i64 x.Rose,.int .i64 x.Gates,.int .i64 x.Step,.int .i64 x.Width]
abbrev mosaic_Radar.ar (x:mosaic_Radar):Array Value:=#[.string x.Site.Name,.int .i64 x.Site.X,.int .i64 x.Site.Y,.int .i64 x.Site.Z,.int .i64 x.Site.Rose,.int .i64 x.Site.Gates,.int .i64 x.Site.Step,.int .i64 x.Site.Width,.int .i64 x.Offset.Lo,.int .i64 x.Offset.Hi]
abbrev mosaic_Radar.ag (x:mosaic_Radar):Value:=.agg #[.string x.Site.Name,.int .i64 x.Site.X,.int .i64 x.Site.Y,.int .i64 x.Site.Z,.int .i64 x.Site.Rose,.int .i64 x.Site.Gates,.int .i64 x.Site.Step,.int .i64 x.Site.Width,.int .i64 x.Offset.Lo,.int .i64 x.Offset.Hi]
abbrev mosaic_Key.ar (x:mosaic_Key):Array Value:=#[.string x.Name,.int .i64 x.Tilt,.int .i64 x.Time]
abbrev mosaic_Key.ag (x:mosaic_Key):Value:=.agg #[.string x.Name,.int .i64 x.Tilt,.int .i64 x.Time]
abbrev beam_slant.ar (x:beam_slant):Array Value:=#[.int .i64 x.c,.int .i64 x.s,.int .i64 x.d]
abbrev beam_slant.ag (x:beam_slant):Value:=.agg #[.int .i64 x.c,.int .i64 x.s,.int .i64 x.d]
abbrev beam_vector.ar (x:beam_vector):Array Value:=#[.int .i64 x.x,.int .i64 x.y,.int .i64 x.length]
abbrev beam_vector.ag (x:beam_vector):Value:=.agg #[.int .i64 x.x,.int .i64 x.y,.int .i64 x.length]
abbrev mosaic_Pixel.ar (x:mosaic_Pixel):Array Value:=#[.int .i64 x.Value_.Lo,.int .i64 x.Value_.Hi,.string x.Key.Name,.int .i64 x.Key.Tilt,.int .i64 x.Key.Time]
abbrev mosaic_Pixel.ag (x:mosaic_Pixel):Value:=.agg #[.int .i64 x.Value_.Lo,.int .i64 x.Value_.Hi,.string x.Key.Name,.int .i64 x.Key.Tilt,.int .i64 x.Key.Time]
abbrev law11_Station.ar (x:law11_Station):Array Value:=#[.int .i16 x.X,.int .i16 x.Y,.int .u16 x.Z,.int .u8 x.Rose,.int .u8 x.Gates,.int .u8 x.Width,.int .u16 x.Lo,.int .u16 x.Hi]
abbrev law11_Station.ag (x:law11_Station):Value:=.agg #[.int .i16 x.X,.int .i16 x.Y,.int .u16 x.Z,.int .u8 x.Rose,.int .u8 x.Gates,.int .u8 x.Width,.int .u16 x.Lo,.int .u16 x.Hi]
abbrev law11_Net.ar (x:law11_Net):Array Value:=#[.int .u8 x.Wide,.int .u8 x.High,.int .i16 x.Stations.1.X,.int .i16 x.Stations.1.Y,.int .u16 x.Stations.1.Z,.int .u8 x.Stations.1.Rose,.int .u8 x.Stations.1.Gates,.int .u8 x.Stations.1.Width,.int .u16 x.Stations.1.Lo,.int .u16 x.Stations.1.Hi,.int .i16 x.Stations.2.1.X,.int .i16 x.Stations.2.1.Y,.int .u16 x.Stations.2.1.Z,.int .u8 x.Stations.2.1.Rose,.int .u8 x.Stations.2.1.Gates,.int .u8 x.Stations.2.1.Width,.int .u16 x.Stations.2.1.Lo,.int .u16 x.Stations.2.1.Hi,.int .i16 x.Stations.2.2.X,.int .i16 x.Stations.2.2.Y,.int .u16 x.Stations.2.2.Z,.int .u8 x.Stations.2.2.Rose,.int .u8 x.Stations.2.2.Gates,.int .u8 x.Stations.2.2.Width,.int .u16 x.Stations.2.2.Lo,.int .u16 x.Stations.2.2.Hi,.int .u8 x.Count,.int .u16 x.Age]
abbrev law11_Net.ag (x:law11_Net):Value:=.agg #[.int .u8 x.Wide,.int .u8 x.High,.int .i16 x.Stations.1.X,.int .i16 x.Stations.1.Y,.int .u16 x.Stations.1.Z,.int .u8 x.Stations.1.Rose,.int .u8 x.Stations.1.Gates,.int .u8 x.Stations.1.Width,.int .u16 x.Stations.1.Lo,.int .u16 x.Stations.1.Hi,.int .i16 x.Stations.2.1.X,.int .i16 x.Stations.2.1.Y,.int .u16 x.Stations.2.1.Z,.int .u8 x.Stations.2.1.Rose,.int .u8 x.Stations.2.1.Gates,.int .u8 x.Stations.2.1.Width,.int .u16 x.Stations.2.1.Lo,.int .u16 x.Stations.2.1.Hi,.int .i16 x.Stations.2.2.X,.int .i16 x.Stations.2.2.Y,.int .u16 x.Stations.2.2.Z,.int .u8 x.Stations.2.2.Rose,.int .u8 x.Stations.2.2.Gates,.int .u8 x.Stations.2.2.Width,.int .u16 x.Stations.2.2.Lo,.int .u16 x.Stations.2.2.Hi,.int .u8 x.Count,.int .u16 x.Age]
abbrev mosaic_Node.ax (x:mosaic_Node) (adg1_:Option Addr) (capg2_:Nat) (mg3_:Nat) (mg4_:Nat) (mg5_:Nat):Array Value:=#[.int .i64 x.spec.Grid.X,.int .i64 x.spec.Grid.Y,.int .i64 x.spec.Grid.Size,.int .i64 x.spec.Grid.Wide,.int .i64 x.spec.Grid.High,.int .i64 x.spec.Earth.Lo,.int .i64 x.spec.Earth.Hi,.slice adg1_ x.spec.Radars.length capg2_,.int .i64 x.spec.Age,.map (some mg3_),.int .i64 x.horizon,.map (some mg4_),.int .i64 x.count,.map (some mg5_)]
abbrev mosaic_Spec.ax (x:mosaic_Spec) (adg1_:Option Addr) (capg2_:Nat):Array Value:=#[.int .i64 x.Grid.X,.int .i64 x.Grid.Y,.int .i64 x.Grid.Size,.int .i64 x.Grid.Wide,.int .i64 x.Grid.High,.int .i64 x.Earth.Lo,.int .i64 x.Earth.Hi,.slice adg1_ x.Radars.length capg2_,.int .i64 x.Age]
abbrev law11_Post.ax (x:law11_Post) (adg1_:Option Addr) (capg2_:Nat):Array Value:=#[.int .u8 x.Radar,.int .u8 x.Tilt,.int .u16 x.Time,.slice adg1_ x.Vals.length capg2_,.int .u8 x.Wide]
abbrev api_Grid.e0 (x:api_Grid):Bool:=(((x.X:Int)==0)&&(((x.Y:Int)==0)&&(((x.Size:Int)==0)&&(((x.Wide:Int)==0)&&(((x.High:Int)==0)&&true)))))
abbrev api_Site.e0 (x:api_Site):Bool:=((x.Name==ByteArray.empty)&&(((x.X:Int)==0)&&(((x.Y:Int)==0)&&(((x.Z:Int)==0)&&(((x.Rose:Int)==0)&&(((x.Gates:Int)==0)&&(((x.Step:Int)==0)&&(((x.Width:Int)==0)&&true))))))))
abbrev mosaic_Radar.e0 (x:mosaic_Radar):Bool:=((x.Site.Name==ByteArray.empty)&&(((x.Site.X:Int)==0)&&(((x.Site.Y:Int)==0)&&(((x.Site.Z:Int)==0)&&(((x.Site.Rose:Int)==0)&&(((x.Site.Gates:Int)==0)&&(((x.Site.Step:Int)==0)&&(((x.Site.Width:Int)==0)&&(((x.Offset.Lo:Int)==0)&&(((x.Offset.Hi:Int)==0)&&true))))))))))
abbrev mosaic_Key.e0 (x:mosaic_Key):Bool:=((x.Name==ByteArray.empty)&&(((x.Tilt:Int)==0)&&(((x.Time:Int)==0)&&true)))
abbrev beam_slant.e0 (x:beam_slant):Bool:=(((x.c:Int)==0)&&(((x.s:Int)==0)&&(((x.d:Int)==0)&&true)))
abbrev beam_vector.e0 (x:beam_vector):Bool:=(((x.x:Int)==0)&&(((x.y:Int)==0)&&(((x.length:Int)==0)&&true)))
abbrev mosaic_Pixel.e0 (x:mosaic_Pixel):Bool:=(((x.Value_.Lo:Int)==0)&&(((x.Value_.Hi:Int)==0)&&((x.Key.Name==ByteArray.empty)&&(((x.Key.Tilt:Int)==0)&&(((x.Key.Time:Int)==0)&&true)))))
abbrev law11_Station.e0 (x:law11_Station):Bool:=(((x.X:Int)==0)&&(((x.Y:Int)==0)&&(((x.Z:Int)==0)&&(((x.Rose:Int)==0)&&(((x.Gates:Int)==0)&&(((x.Width:Int)==0)&&(((x.Lo:Int)==0)&&(((x.Hi:Int)==0)&&true))))))))
abbrev law11_Net.e0 (x:law11_Net):Bool:=(((x.Wide:Int)==0)&&(((x.High:Int)==0)&&(((x.Stations.1.X:Int)==0)&&(((x.Stations.1.Y:Int)==0)&&(((x.Stations.1.Z:Int)==0)&&(((x.Stations.1.Rose:Int)==0)&&(((x.Stations.1.Gates:Int)==0)&&(((x.Stations.1.Width:Int)==0)&&(((x.Stations.1.Lo:Int)==0)&&(((x.Stations.1.Hi:Int)==0)&&(((x.Stations.2.1.X:Int)==0)&&(((x.Stations.2.1.Y:Int)==0)&&(((x.Stations.2.1.Z:Int)==0)&&(((x.Stations.2.1.Rose:Int)==0)&&(((x.Stations.2.1.Gates:Int)==0)&&(((x.Stations.2.1.Width:Int)==0)&&(((x.Stations.2.1.Lo:Int)==0)&&(((x.Stations.2.1.Hi:Int)==0)&&(((x.Stations.2.2.X:Int)==0)&&(((x.Stations.2.2.Y:Int)==0)&&(((x.Stations.2.2.Z:Int)==0)&&(((x.Stations.2.2.Rose:Int)==0)&&(((x.Stations.2.2.Gates:Int)==0)&&(((x.Stations.2.2.Width:Int)==0)&&(((x.Stations.2.2.Lo:Int)==0)&&(((x.Stations.2.2.Hi:Int)==0)&&(((x.Count:Int)==0)&&(((x.Age:Int)==0)&&true))))))))))))))))))))))))))))
abbrev Wy:Array Value:=#[.string ByteArray.empty,.int .i64 0,.int .i64 0,.int .i64 0,.int .i64 0,.int .i64 0,.int .i64 0,.int .i64 0,.int .i64 0,.int .i64 0]
abbrev z37:Array Value:=#[.int .i64 0,.int .i64 0,.int .i64 0,.int .i64 0,.int .i64 0,.int .i64 0,.int .i64 0,.slice none 0 0,.int .i64 0]
abbrev Sc:Array Value:=#[.string ByteArray.empty,.int .i64 0,.int .i64 0,.int .i64 0,.int .i64 0,.int .i64 0,.int .i64 0,.int .i64 0]
abbrev z25:Array Value:=#[.int .i16 0,.int .i16 0,.int .u16 0,.int .u8 0,.int .u8 0,.int .u8 0,.int .u16 0,.int .u16 0]
abbrev z66:Array Value:=#[.int .i64 0,.int .i64 0,.string ByteArray.empty,.int .i64 0,.int .i64 0]
abbrev z49:Array Value:=#[.string ByteArray.empty,.int .i64 0,.int .i64 0,.slice none 0 0]
def Rp47:Rel (List api_Span):=fun μ cs x=>∃(ad1:Option Addr) (cap2:Nat),cs=[.slice ad1 x.length cap2]∧ArrM μ 2 api_Span.cells ad1 cap2 x
theorem Rp47.mono:Rel.Mono Rp47:=by
  intro μ ν cs x hle h;obtain ⟨ad1,cap2,rfl,f0⟩:=h;exact ⟨ad1,cap2,rfl,f0.mono hle⟩
theorem Rp47.one:Rel.One 1 Rp47:=by
  intro μ cs x h;obtain ⟨ad1,cap2,rfl,f0⟩:=h
  all_goals rfl
def Rp155:Rel mosaic_used:=fun μ cs x=>∃(ad1:Option Addr) (cap2:Nat) (ad3:Option Addr) (cap4:Nat),cs=[.string x.Key.Name,.int .i64 x.Key.Tilt,.int .i64 x.Key.Time,.slice ad1 x.vals.length cap2,.slice ad3 x.bands.length cap4]∧ArrM μ 2 api_Span.cells ad1 cap2 x.vals∧ArrM μ 2 api_Span.cells ad3 cap4 x.bands
theorem Rp155.mono:Rel.Mono Rp155:=by
  intro μ ν cs x hle h;obtain ⟨ad1,cap2,ad3,cap4,rfl,f0,f1⟩:=h;exact ⟨ad1,cap2,ad3,cap4,rfl,f0.mono hle,f1.mono hle⟩
theorem Rp155.one:Rel.One 5 Rp155:=by
  intro μ cs x h;obtain ⟨ad1,cap2,ad3,cap4,rfl,f0,f1⟩:=h
  all_goals rfl
def Rp49:Rel mosaic_Message:=fun μ cs x=>∃(ad1:Option Addr) (cap2:Nat),cs=[.string x.Key.Name,.int .i64 x.Key.Tilt,.int .i64 x.Key.Time,.slice ad1 x.Vals.length cap2]∧ArrM μ 2 api_Span.cells ad1 cap2 x.Vals
theorem Rp49.mono:Rel.Mono Rp49:=by
  intro μ ν cs x hle h;obtain ⟨ad1,cap2,rfl,f0⟩:=h;exact ⟨ad1,cap2,rfl,f0.mono hle⟩
theorem Rp49.one:Rel.One 4 Rp49:=by
  intro μ cs x h;obtain ⟨ad1,cap2,rfl,f0⟩:=h
  all_goals rfl
def Rp52:Rel law11_Post:=fun μ cs x=>∃(ad1:Option Addr) (cap2:Nat),cs=[.int .u8 x.Radar,.int .u8 x.Tilt,.int .u16 x.Time,.slice ad1 x.Vals.length cap2,.int .u8 x.Wide]∧ArrM μ 1 (fK .u16) ad1 cap2 x.Vals
theorem Rp52.mono:Rel.Mono Rp52:=by
  intro μ ν cs x hle h;obtain ⟨ad1,cap2,rfl,f0⟩:=h;exact ⟨ad1,cap2,rfl,f0.mono hle⟩
def Fh (p0:ByteArray):Bool:=A05 p0
def or3 (x y z:Int):Int:=if x≠0 then x else if y≠0 then y else z
def E9 (x y:mosaic_Key):Int:=or3 (if x.Time<y.Time then -1 else if y.Time<x.Time then 1 else 0) (if Na x.Name y.Name then -1 else if Mt x.Name y.Name then 1 else 0) (if x.Tilt<y.Tilt then -1 else if y.Tilt<x.Tilt then 1 else 0)
def Bs (l:List mosaic_Key):List mosaic_Key:=Qa E9 l
def Fa (F:Nat) (p0:mosaic_Node):Option (List mosaic_Key):=if p0.kept.length≤1000000 then some (Bs (p0.kept.map (·.1))) else none
def Gk (F:Nat) (p0:List (List api_Span)) (p1:Int) (p2:List (List api_Span)):Option (List (List api_Span)):=if 0≤p1∧p1≤(p0.length:Int)∧p2.length=1∧p0.length≤1000000 then some (p0.take p1.toNat++p2++p0.drop p1.toNat) else none
def D1 (F:Nat) (p0:mosaic_Node):Option (List mosaic_Key):=if p0.kept.length≤1000000 then some ((Bs (p0.kept.map (·.1))).filter fun k=>!decide ((((lkM p0.kept k).getD []).length:Int)<2)) else none
def A7 (p0:Int) (p1:Int) (p2:Int):Bool :=
  bif (decide (p1≤p0)) then (decide (p0≤p2)) else false
def Bw (c2:Bool):Int :=
  bif c2 then (3) else (0)
def B2 (p0:api_Grid):Int :=
  bif (!(A7 p0.X (-1048576) 1048576)) then (Bw (!(A7 p0.X (-1048576) 1048576))) else (bif (!(A7 p0.Y (-1048576) 1048576)) then (Bw (!(A7 p0.Y (-1048576) 1048576))) else (bif (!(A7 p0.Size 1 10000)) then (Bw (!(A7 p0.Size 1 10000))) else (bif (!(A7 p0.Wide 1 64)) then (Bw (!(A7 p0.Wide 1 64))) else (Bw (!(A7 p0.High 1 64))))))
def C0 (p0:api_Span) (p1:Int) (p2:Int):Bool :=
  bif (bif (decide (p1≤p0.Lo)) then (decide (p0.Lo≤p0.Hi)) else false) then (decide (p0.Hi≤p2)) else false
def Bh (p0:Int) (p1:Int) (p2:Int):Bool :=
  bif (decide (p1≤p0)) then (decide (p0≤p2)) else false
def Jm (F:Nat) (p0:ByteArray):Option Bool :=
  (gd (((bif (!(sEq p0 (⟨#[]⟩:ByteArray))) then (decide (((p0.size:Nat):Int)≤12)) else false)==true&&true)) (Xe p0 (0:Int)) default).bind fun u1 =>
  (gd (((bif (bif (!(sEq p0 (⟨#[]⟩:ByteArray))) then (decide (((p0.size:Nat):Int)≤12)) else false) then (decide (u1≥97)) else false)==true&&true)) (Xe p0 (0:Int)) default).bind fun u2 =>
  some (bif (bif (bif (bif (!(sEq p0 (⟨#[]⟩:ByteArray))) then (decide (((p0.size:Nat):Int)≤12)) else false) then (decide (u1≥97)) else false) then (decide (u2≤122)) else false) then (!(Fh p0)) else false)
def Ca (c4:Bool):Option Int :=
  bif c4 then (some 3) else (some 0)
def Cw (p0:api_Site) (c3:Bool):Option Int :=
  bif c3 then (some 3) else (bif (!(A7 p0.Rose 1 90)) then (Ca (!(A7 p0.Rose 1 90))) else (bif (!(A7 p0.Gates 1 200)) then (Ca (!(A7 p0.Gates 1 200))) else (bif (!(A7 p0.Step 50 2000)) then (Ca (!(A7 p0.Step 50 2000))) else (Ca (!(A7 p0.Width 0 8))))))
def beam_CheckSite (F:Nat) (p0:api_Site):Option Int :=
  (Jm F p0.Name).bind fun y2 =>
  bif (!y2) then (some 10) else (bif (!(A7 p0.X (-1048576) 1048576)) then (Cw p0 (!(A7 p0.X (-1048576) 1048576))) else (bif (!(A7 p0.Y (-1048576) 1048576)) then (Cw p0 (!(A7 p0.Y (-1048576) 1048576))) else (Cw p0 (!(A7 p0.Z 0 20000)))))
def Hf (a0:(List (ByteArray×Bool))):Option Int :=
  some 0
def Fz (F:Nat) (p0:mosaic_Spec) (k2:((List (ByteArray×Bool))→Int→Option Int)) (a1:(List (ByteArray×Bool))) (a2:Int):Option Int :=
  bif (decide (a2<((p0.Radars.length:Nat):Int))) then ((Be p0.Radars a2).bind fun a0 =>
  (beam_CheckSite F a0.Site).bind fun a3 =>
  bif (a3 != 0) then (some a3) else (bif ((lkM a1 a0.Site.Name).getD false) then (some 5) else (bif (!(C0 a0.Offset (-3600) 3600)) then (some 3) else ((ck (a2+1)).bind fun a4 =>
  k2 (upM a1 a0.Site.Name true) a4)))) else (Hf a1)
def Dk (F:Nat) (p0:mosaic_Spec):Nat→(List (ByteArray×Bool))→Int→Option Int
  | 0,_,_=>none
  | n+1,a0,a1=>Fz F p0 (Dk F p0 n) a0 a1
def Gh (F:Nat) (p0:mosaic_Spec):Option Int :=
  bif ((B2 p0.Grid) != 0) then (some (B2 p0.Grid)) else (bif (bif (!(C0 p0.Earth 1000000 100000000)) then true else (!(Bh p0.Age 1 86400))) then (some 3) else (bif (((p0.Radars.length:Nat):Int)==0) then (some 18) else (bif (decide (((p0.Radars.length:Nat):Int)>32)) then (some 9) else (Dk F p0 F ([]:List (ByteArray×Bool)) 0))))
def Aw (F:Nat) (p0:(List mosaic_Radar)):Option (List mosaic_Radar) :=
  (apd 88 ([]:List mosaic_Radar) p0).bind fun l5 =>
  some l5
def Ji (p0:mosaic_Spec) (y7:(List mosaic_Radar)) (a0:(List (ByteArray×mosaic_Radar))):Option (Except Int (mosaic_Node×Int)) :=
  some (.ok ((mosaic_Node.mk (mosaic_Spec.mk p0.Grid p0.Earth y7 p0.Age) a0 0 ([]:List (mosaic_Key×(List (List api_Span)))) 0 ([]:List (mosaic_where×(List api_Span)))),0))
def H6 (p0:mosaic_Spec) (y7:(List mosaic_Radar)) (k2:((List (ByteArray×mosaic_Radar))→Int→Option (Except Int (mosaic_Node×Int)))) (a1:(List (ByteArray×mosaic_Radar))) (a0:Int):Option (Except Int (mosaic_Node×Int)) :=
  bif (decide (a0<((y7.length:Nat):Int))) then ((Be y7 a0).bind fun a2 =>
  (ck (a0+1)).bind fun a3 =>
  k2 (upM a1 a2.Site.Name a2) a3) else (Ji p0 y7 a1)
def Ez (p0:mosaic_Spec) (y7:(List mosaic_Radar)):Nat→(List (ByteArray×mosaic_Radar))→Int→Option (Except Int (mosaic_Node×Int))
  | 0,_,_=>none
  | n+1,a0,a1=>H6 p0 y7 (Ez p0 y7 n) a0 a1
def Gv (F:Nat) (p0:mosaic_Spec):Option (Except Int (mosaic_Node×Int)) :=
  (Gh F p0).bind fun y5 =>
  bif (y5 != 0) then (some (.error y5)) else ((Aw F p0.Radars).bind fun y7 =>
  Ez p0 y7 F ([]:List (ByteArray×mosaic_Radar)) 0)
def C8 (F:Nat) (p0:mosaic_Node):Option Bool :=
  some false
def F4:Option Int :=
  some 0
def De (p1:mosaic_Message) (k2:(Int→Option Int)) (a0:Int):Option Int :=
  bif (decide (a0<((p1.Vals.length:Nat):Int))) then ((Be p1.Vals a0).bind fun a1 =>
  bif (!(C0 a1 0 1000000)) then (some 3) else ((ck (a0+1)).bind fun a2 =>
  k2 a2)) else (F4)
def By (p1:mosaic_Message):Nat→Int→Option Int
  | 0,_=>none
  | n+1,a0=>De p1 (By p1 n) a0
def D6 (F:Nat) (p0:mosaic_Node) (p1:mosaic_Message):Option Int :=
  bif (!((lkM p0.radars p1.Key.Name).isSome)) then (some 4) else (bif (bif (!(Bh p1.Key.Tilt 0 256)) then true else (!(Bh p1.Key.Time 0 4294967296))) then (some 3) else ((ck (p0.spec.Grid.Wide*p0.spec.Grid.High)).bind fun a0 =>
  bif (((p1.Vals.length:Nat):Int) != a0) then (some 11) else (By p1 F 0)))
def Je:Option Int :=
  some 0
def H0 (p0:(List Int)) (k2:(Int→Option Int)) (a0:Int):Option Int :=
  bif (decide (a0<((p0.length:Nat):Int))) then ((Be p0 a0).bind fun a1 =>
  bif (a1 != 0) then (some a1) else ((ck (a0+1)).bind fun a2 =>
  k2 a2)) else (Je)
def Ew (p0:(List Int)):Nat→Int→Option Int
  | 0,_=>none
  | n+1,a0=>H0 p0 (Ew p0 n) a0
def Hv (F:Nat) (p0:(List Int)):Option Int :=
  Ew p0 F 0
def Bz (p0:Int):Bool :=
  p0 != p0
def Ab (p0:Int) (p1:Int):Int :=
  bif (Bz p0) then (bif (Bz p1) then (0) else (-1)) else (bif (Bz p1) then (1) else (bif (decide (p0<p1)) then (-1) else (bif (decide (p0>p1)) then (1) else (0))))
def Ec (F:Nat) (p0:api_Span) (p1:api_Span):Option Int :=
  (Hv F ([(Ab p0.Lo p1.Lo),(Ab p0.Hi p1.Hi)])).bind fun y4 =>
  some y4
def Al (p0:(List api_Span)) (p1:(List api_Span)):Option Int :=
  bif (decide (((p0.length:Nat):Int)<((p1.length:Nat):Int))) then (some (-1)) else (some 0)
def Ak (F:Nat) (p0:(List api_Span)) (p1:(List api_Span)) (k2:(Int→Option Int)) (a0:Int):Option Int :=
  bif (decide (a0<((p0.length:Nat):Int))) then ((Be p0 a0).bind fun a2 =>
  bif (decide (a0≥((p1.length:Nat):Int))) then (some 1) else ((Be p1 a0).bind fun a3 =>
  (Ec F a2 a3).bind fun a1 =>
  bif (a1 != 0) then (some a1) else ((ck (a0+1)).bind fun a4 =>
  k2 a4))) else (Al p0 p1)
def Aa (F:Nat) (p0:(List api_Span)) (p1:(List api_Span)):Nat→Int→Option Int
  | 0,_=>none
  | n+1,a0=>Ak F p0 p1 (Aa F p0 p1 n) a0
def An (F:Nat) (p0:(List api_Span)) (p1:(List api_Span)):Option Int :=
  Aa F p0 p1 F 0
def Eb (F:Nat) (p0:(List api_Span)) (p1:(List api_Span)):Option Int :=
  (An F p0 p1).bind fun y8 =>
  some y8
def Ap (F:Nat) (p0:(List (List api_Span))) (p1:(List api_Span)) (a0:Int):Option (Int×Bool) :=
  bif (decide (a0<((p0.length:Nat):Int))) then ((Be p0 a0).bind fun a1 =>
  (Eb F a1 p1).bind fun a2 =>
  some (a0,a2==0)) else (some (a0,false))
def Ao (F:Nat) (p0:(List (List api_Span))) (p1:(List api_Span)) (k2:(Int→Int→Option (Int×Bool))) (a1:Int) (a0:Int):Option (Int×Bool) :=
  bif (decide (a0<a1)) then ((ck (a0+a1)).bind fun a4 =>
  (ck (Int.fdiv (IntKind.u64.wrap a4) 2)).bind fun a2 =>
  (Be p0 a2).bind fun a3 =>
  (Eb F a3 p1).bind fun a6 =>
  bif (decide (a6<0)) then ((ck (a2+1)).bind fun a5 =>
  k2 a1 a5) else (k2 a2 a0)) else (Ap F p0 p1 a0)
def Ae (F:Nat) (p0:(List (List api_Span))) (p1:(List api_Span)):Nat→Int→Int→Option (Int×Bool)
  | 0,_,_=>none
  | n+1,a0,a1=>Ao F p0 p1 (Ae F p0 p1 n) a0 a1
def Ar (F:Nat) (p0:(List (List api_Span))) (p1:(List api_Span)):Option (Int×Bool) :=
  Ae F p0 p1 F ((p0.length:Nat):Int) 0
def C6 (F:Nat) (p0:mosaic_Node) (p1:mosaic_Message):Option (Int×Bool) :=
  (Ar F ((lkM p0.kept p1.Key).getD []) p1.Vals).bind fun a0 =>
  some (a0.1,a0.2)
def Bb (F:Nat) (p0:(List (List api_Span))):Option (List (List api_Span)) :=
  (apd 24 ([]:List (List api_Span)) p0).bind fun l7 =>
  some l7
def Au (F:Nat) (p0:(List api_Span)):Option (List api_Span) :=
  (apd 16 ([]:List api_Span) p0).bind fun l5 =>
  some l5
def Ed (F:Nat) (p0:mosaic_Node) (p1:mosaic_Message):Option mosaic_Node :=
  (C6 F p0 p1).bind fun a1 =>
  (Bb F ((lkM p0.kept p1.Key).getD [])).bind fun a2 =>
  (Au F p1.Vals).bind fun a3 =>
  (Gk F a2 a1.1 ([a3])).bind fun a4 =>
  (ck (p0.count+1)).bind fun a0 =>
  some (mosaic_Node.mk p0.spec p0.radars p0.horizon (upM p0.kept p1.Key a4) a0 p0.looks)
def C2 (F:Nat) (p0:mosaic_Node) (p1:mosaic_Message):Option (Bool×Int×mosaic_Node) :=
  (C8 F p0).bind fun a1 =>
  bif a1 then (some (false,1,p0)) else ((D6 F p0 p1).bind fun a0 =>
  bif (a0 != 0) then (some (false,a0,p0)) else (bif (decide (p1.Key.Time<p0.horizon)) then (some (false,17,p0)) else ((C6 F p0 p1).bind fun a2 =>
  bif a2.2 then (some (false,0,p0)) else (bif (decide (p0.count≥256)) then (some (false,13,p0)) else ((Ed F p0 p1).bind fun a3 =>
  some (true,0,a3))))))
def D5 (F:Nat) (p0:mosaic_Node) (p1:Int):Option Int :=
  (C8 F p0).bind fun a0 =>
  bif a0 then (some 1) else (bif (!(Bh p1 0 4294967296)) then (some 3) else (bif (decide (p1<p0.horizon)) then (some 17) else (some 0)))
def B7 (p0:ByteArray):Bool :=
  !(sEq p0 p0)
def B4 (p0:ByteArray) (p1:ByteArray):Int :=
  bif (B7 p0) then (bif (B7 p1) then (0) else (-1)) else (bif (B7 p1) then (1) else (bif (Na p0 p1) then (-1) else (bif (Mt p0 p1) then (1) else (0))))
def Cz (F:Nat) (p0:Int):Option beam_slant :=
  (ck (p0*p0)).bind fun x2 =>
  (ck (262144-x2)).bind fun x3 =>
  (ck (1024*p0)).bind fun x4 =>
  (ck (p0*p0)).bind fun x5 =>
  (ck (262144+x5)).bind fun x6 =>
  some (beam_slant.mk x3 x4 x6)
def F7 (F:Nat) (p0:Int) (c0_:api_Site) (c1_:beam_slant):Option Int :=
  (ck (p0*c0_.Step)).bind fun x1 =>
  (ck (x1*c1_.c)).bind fun x2 =>
  (Kw x2 c1_.d).bind fun x3 =>
  some x3
def K4 (a0:Int):Option Int :=
  some a0
def Hm (F:Nat) (p0:api_Site) (p2:Int) (y2:beam_slant) (k2:(Int→Int→Option Int)) (a0:Int) (a2:Int):Option Int :=
  (ck (a2-a0)).bind fun a3 =>
  bif (decide (a3>1)) then ((ck (a0+a2)).bind fun a4 =>
  (Kw a4 2).bind fun a1 =>
  (F7 F a1 p0 y2).bind fun a6 =>
  (F7 F a1 p0 y2).bind fun a7 =>
  (ck (a6*a7)).bind fun a5 =>
  bif (decide (a5≤p2)) then (k2 a1 a2) else (k2 a0 a1)) else (K4 a0)
def Fk (F:Nat) (p0:api_Site) (p2:Int) (y2:beam_slant):Nat→Int→Int→Option Int
  | 0,_,_=>none
  | n+1,a0,a1=>Hm F p0 p2 y2 (Fk F p0 p2 y2 n) a0 a1
def Jo (F:Nat) (p0:api_Site) (p1:Int) (p2:Int):Option Int :=
  (Cz F p1).bind fun y2 =>
  (F7 F p0.Gates p0 y2).bind fun y4 =>
  (ck (y4*y4)).bind fun x5 =>
  bif (decide (p2≥x5)) then (some (-1)) else (Fk F p0 p2 y2 F 0 p0.Gates)
def F6 (F:Nat) (p0:Int) (p1:Int):Option beam_vector :=
  (Dh p1 p0).bind fun x2 =>
  (ck (2*p0)).bind fun x3 =>
  (ck (x3*x2)).bind fun x4 =>
  (ck (p0*p0)).bind fun x5 =>
  (ck (x2*x2)).bind fun x6 =>
  (ck (x5-x6)).bind fun x7 =>
  (ck (p0*p0)).bind fun x8 =>
  (ck (x2*x2)).bind fun x9 =>
  (ck (x8+x9)).bind fun a0 =>
  (Kw p1 p0).bind fun a1 =>
  bif (a1==0) then (some (beam_vector.mk x4 x7 a0)) else (bif (a1==1) then (bif (a1==0) then (some (beam_vector.mk x4 x7 a0)) else (some (beam_vector.mk x7 (IntKind.i64.wrap (0-x4)) a0))) else (bif (a1==0) then (some (beam_vector.mk x4 x7 a0)) else (bif (a1==2) then (bif (a1==0) then (some (beam_vector.mk x4 x7 a0)) else (some (beam_vector.mk (IntKind.i64.wrap (0-x4)) (IntKind.i64.wrap (0-x7)) a0))) else (bif (a1==0) then (some (beam_vector.mk x4 x7 a0)) else (bif (a1==3) then (bif (a1==0) then (some (beam_vector.mk x4 x7 a0)) else (some (beam_vector.mk (IntKind.i64.wrap (0-x7)) x4 a0))) else (bif (a1==0) then (some (beam_vector.mk x4 x7 a0)) else (none)))))))
def F5 (F:Nat) (p0:beam_vector) (p1:Int) (p2:Int):Option Bool :=
  (ck (p0.y*p1)).bind fun x2 =>
  (ck (p0.x*p2)).bind fun x3 =>
  some (decide (x2≥x3))
def J9 (p0:Int) (a0:Int) (a1:Int):Option Int :=
  (ck (a0*p0)).bind fun a2 =>
  (ck (a2+a1)).bind fun a3 =>
  some a3
def J7 (F:Nat) (p0:Int) (a3:Int) (a4:Int) (a5:Int) (k3:(Int→Int→Option Int)) (a0:Int) (a1:Int):Option Int :=
  (ck (a1-a0)).bind fun a6 =>
  bif (decide (a6>1)) then ((ck (a0+a1)).bind fun a7 =>
  (Kw a7 2).bind fun a2 =>
  (F6 F p0 a2).bind fun a8 =>
  (F5 F a8 a3 a4).bind fun a9 =>
  bif a9 then (k3 a2 a1) else (k3 a0 a2)) else (J9 p0 a5 a0)
def G6 (F:Nat) (p0:Int) (a0:Int) (a1:Int) (a2:Int):Nat→Int→Int→Option Int
  | 0,_,_=>none
  | n+1,a3,a4=>J7 F p0 a0 a1 a2 (G6 F p0 a0 a1 a2 n) a3 a4
def J8 (F:Nat) (p0:Int) (a0:Int) (a1:Int) (a2:Int):Option Int :=
  G6 F p0 a0 a1 a2 F 0 p0
def H7 (F:Nat) (p0:Int) (k4:(Int→Int→Int→Option Int)) (a0:Int) (a1:Int) (a2:Int):Option Int :=
  bif (bif (decide (a0<0)) then true else (decide (a1≤0))) then ((ck (a2+1)).bind fun a3 =>
  k4 (IntKind.i64.wrap (0-a1)) a0 a3) else (J8 F p0 a0 a1 a2)
def Dl (F:Nat) (p0:Int):Nat→Int→Int→Int→Option Int
  | 0,_,_,_=>none
  | n+1,a0,a1,a2=>H7 F p0 (Dl F p0 n) a0 a1 a2
def Kk (F:Nat) (p0:Int) (p1:Int) (p2:Int):Option Int :=
  Dl F p0 F p1 p2 0
def Jn (F:Nat) (p0:api_Site) (p1:Int) (p2:Int) (p3:Int):Option (Int×Int×Bool) :=
  (ck (p2-p0.X)).bind fun x2 =>
  (ck (p3-p0.Y)).bind fun x3 =>
  bif (bif (x2==0) then (x3==0) else false) then (some (0,0,true)) else ((ck (x2*x2)).bind fun x4 =>
  (ck (x3*x3)).bind fun x5 =>
  (ck (x4+x5)).bind fun x6 =>
  (Jo F p0 p1 x6).bind fun y7 =>
  bif (decide (y7<0)) then (some (0,0,false)) else ((Kk F p0.Rose x2 x3).bind fun y8 =>
  some (y8,y7,true)))
def K2 (a0:(List Int)):Option ((List Int)×Int) :=
  some (a0,0)
def Hl (a1:Int) (k2:((List Int)→Int→Option ((List Int)×Int))) (a0:(List Int)):Option ((List Int)×Int) :=
  (ck (a1+1)).bind fun a2 =>
  k2 a0 a2
def Fj (a0:(List Int)) (a2:Int) (k4:((List Int)→Int→Option ((List Int)×Int))) (a3:Int):Option ((List Int)×Int) :=
  (apd 8 a0 ([a3])).bind fun a1 =>
  (ck (a2+1)).bind fun a4 =>
  k4 a1 a4
def Hk (F:Nat) (p0:api_Site) (p1:Int) (p2:api_Grid) (a3:Int) (k2:((List Int)→Int→Option ((List Int)×Int))) (k4:((List Int)→Int→Option ((List Int)×Int))) (a1:(List Int)) (a0:Int):Option ((List Int)×Int) :=
  bif (decide (a0<p2.Wide)) then ((ck (a0*p2.Size)).bind fun a4 =>
  (ck (p2.X+a4)).bind fun a5 =>
  (Kw p2.Size 2).bind fun a6 =>
  (ck (a5+a6)).bind fun a7 =>
  (ck (a3*p2.Size)).bind fun a8 =>
  (ck (p2.Y+a8)).bind fun a9 =>
  (Kw p2.Size 2).bind fun aA =>
  (ck (a9+aA)).bind fun aB =>
  (Jn F p0 p1 a7 aB).bind fun a2 =>
  bif a2.2.2 then ((ck (a2.1*p0.Gates)).bind fun aC =>
  (ck (aC+a2.2.1)).bind fun aD =>
  Fj a1 a0 k4 aD) else (Fj a1 a0 k4 (-1))) else (Hl a3 k2 a1)
def Eg (F:Nat) (p0:api_Site) (p1:Int) (p2:api_Grid) (a0:Int) (k2:((List Int)→Int→Option ((List Int)×Int))):Nat→(List Int)→Int→Option ((List Int)×Int)
  | 0,_,_=>none
  | n+1,a1,a2=>Hk F p0 p1 p2 a0 k2 (Eg F p0 p1 p2 a0 k2 n) a1 a2
def Hj (F:Nat) (p0:api_Site) (p1:Int) (p2:api_Grid) (k2:((List Int)→Int→Option ((List Int)×Int))) (a0:(List Int)) (a1:Int):Option ((List Int)×Int) :=
  bif (decide (a1<p2.High)) then (Eg F p0 p1 p2 a1 k2 F a0 0) else (K2 a0)
def Ef (F:Nat) (p0:api_Site) (p1:Int) (p2:api_Grid):Nat→(List Int)→Int→Option ((List Int)×Int)
  | 0,_,_=>none
  | n+1,a0,a1=>Hj F p0 p1 p2 (Ef F p0 p1 p2 n) a0 a1
def Fi (F:Nat) (p0:api_Site) (p1:Int) (p2:api_Grid):Option ((List Int)×Int) :=
  (beam_CheckSite F p0).bind fun y3 =>
  bif (y3 != 0) then (some (([]:(List Int)),y3)) else (bif ((B2 p2) != 0) then (some (([]:(List Int)),(B2 p2))) else (bif (!(A7 p1 0 256)) then (some (([]:(List Int)),3)) else ((ck (p2.Wide*p2.High)).bind fun x4 =>
  (mk0 8 x4).bind fun c6 =>
  Ef F p0 p1 p2 F ([]:List Int) 0)))
def Dw (p0:api_Span):Bool :=
  bif (bif (decide (1000000≤p0.Lo)) then (decide (p0.Lo≤p0.Hi)) else false) then (decide (p0.Hi≤100000000)) else false
def Gp (F:Nat) (p0:Int) (p1:Int):Option Int :=
  (Kw p0 p1).bind fun x1 =>
  (ck (x1*p1)).bind fun x2 =>
  bif (decide (x2>p0)) then ((ck (x1-1)).bind fun x3 =>
  some x3) else (some x1)
def K5 (F:Nat) (p0:Int) (p1:Int):Option Int :=
  (Kw p0 p1).bind fun x1 =>
  (ck (x1*p1)).bind fun x2 =>
  bif (decide (x2<p0)) then ((ck (x1+1)).bind fun x3 =>
  some x3) else (some x1)
def E7 (F:Nat) (p0:api_Site) (p1:Int) (p2:Int):Option Int :=
  (Cz F p1).bind fun y2 =>
  (ck (2*p2)).bind fun x4 =>
  (ck (x4+1)).bind fun x5 =>
  (ck (x5*p0.Step)).bind fun x6 =>
  (ck (x6*y2.c)).bind fun x7 =>
  (ck (2*y2.d)).bind fun x8 =>
  (Gp F x7 x8).bind fun y9 =>
  some y9
def Ep (F:Nat) (p0:api_Site) (p1:Int) (p2:Int) (p3:Int):Option Int :=
  (Cz F p1).bind fun y2 =>
  (E7 F p0 p1 p2).bind fun y5 =>
  (ck (2*p2)).bind fun x6 =>
  (ck (x6+1)).bind fun x7 =>
  (ck (x7*p0.Step)).bind fun x8 =>
  (ck (x8*y2.s)).bind fun x9 =>
  (ck (2*y2.d)).bind fun a0 =>
  (ck (y5*y5)).bind fun a1 =>
  (ck (2*p3)).bind fun a2 =>
  (Gp F x9 a0).bind fun a5 =>
  (ck (p0.Z+a5)).bind fun a3 =>
  (Gp F a1 a2).bind fun a6 =>
  (ck (a3+a6)).bind fun a4 =>
  some a4
def E8 (F:Nat) (p0:api_Site) (p1:Int) (p2:Int):Option Int :=
  (Cz F p1).bind fun y2 =>
  (ck (2*p2)).bind fun x4 =>
  (ck (x4+1)).bind fun x5 =>
  (ck (x5*p0.Step)).bind fun x6 =>
  (ck (x6*y2.c)).bind fun x7 =>
  (ck (2*y2.d)).bind fun x8 =>
  (K5 F x7 x8).bind fun y9 =>
  some y9
def Er (F:Nat) (p0:api_Site) (p1:Int) (p2:Int) (p3:Int):Option Int :=
  (Cz F p1).bind fun y2 =>
  (E8 F p0 p1 p2).bind fun y5 =>
  (ck (2*p2)).bind fun x6 =>
  (ck (x6+1)).bind fun x7 =>
  (ck (x7*p0.Step)).bind fun x8 =>
  (ck (x8*y2.s)).bind fun x9 =>
  (ck (2*y2.d)).bind fun a0 =>
  (ck (y5*y5)).bind fun a1 =>
  (ck (2*p3)).bind fun a2 =>
  (K5 F x9 a0).bind fun a5 =>
  (ck (p0.Z+a5)).bind fun a3 =>
  (K5 F a1 a2).bind fun a6 =>
  (ck (a3+a6)).bind fun a4 =>
  some a4
def Hq (F:Nat) (p0:api_Site) (p1:Int) (p2:api_Span) (p3:Int):Option (api_Span×Int) :=
  (beam_CheckSite F p0).bind fun y4 =>
  bif (y4 != 0) then (some ((api_Span.mk 0 0),y4)) else ((gd (((bif (!(A7 p1 0 256)) then true else (!(Dw p2)))==false&&true)) (ck (p0.Gates-1)) 0).bind fun x5 =>
  bif (bif (bif (!(A7 p1 0 256)) then true else (!(Dw p2))) then true else (!(A7 p3 0 x5))) then (some ((api_Span.mk 0 0),3)) else ((ck (p1-p0.Width)).bind fun x6 =>
  (ck (p1+p0.Width)).bind fun x7 =>
  (Ep F p0 x6 p3 p2.Hi).bind fun y9 =>
  (Er F p0 x7 p3 p2.Lo).bind fun a0 =>
  some ((api_Span.mk y9 a0),0)))
def Dv (p0:mosaic_Node) (p1:mosaic_Key) (a0:(List api_Span)):Option ((List api_Span)×(List (mosaic_where×(List api_Span)))) :=
  some (a0,(upM p0.looks (mosaic_where.mk p1.Name p1.Tilt) a0))
def C7 (a0:(List api_Span)) (a2:Int) (k2:((List api_Span)→Int→Option ((List api_Span)×(List (mosaic_where×(List api_Span)))))) (a3:Int) (a4:Int):Option ((List api_Span)×(List (mosaic_where×(List api_Span)))) :=
  (apd 16 a0 ([(api_Span.mk a3 a4)])).bind fun a1 =>
  (ck (a2+1)).bind fun a5 =>
  k2 a1 a5
def Du (F:Nat) (p0:mosaic_Node) (p1:mosaic_Key) (a4:((List Int)×Int)) (k2:((List api_Span)→Int→Option ((List api_Span)×(List (mosaic_where×(List api_Span)))))) (a1:(List api_Span)) (a0:Int):Option ((List api_Span)×(List (mosaic_where×(List api_Span)))) :=
  bif (decide (a0<((a4.1.length:Nat):Int))) then ((Be a4.1 a0).bind fun a2 =>
  bif (decide (a2≥0)) then ((Dh a2 ((((lkM p0.radars p1.Name).getD (mosaic_Radar.mk (api_Site.mk ByteArray.empty 0 0 0 0 0 0 0) (api_Span.mk 0 0))).Site).Gates)).bind fun a5 =>
  (Hq F (api_Site.mk ((((lkM p0.radars p1.Name).getD (mosaic_Radar.mk (api_Site.mk ByteArray.empty 0 0 0 0 0 0 0) (api_Span.mk 0 0))).Site).Name) ((((lkM p0.radars p1.Name).getD (mosaic_Radar.mk (api_Site.mk ByteArray.empty 0 0 0 0 0 0 0) (api_Span.mk 0 0))).Site).X) ((((lkM p0.radars p1.Name).getD (mosaic_Radar.mk (api_Site.mk ByteArray.empty 0 0 0 0 0 0 0) (api_Span.mk 0 0))).Site).Y) ((((lkM p0.radars p1.Name).getD (mosaic_Radar.mk (api_Site.mk ByteArray.empty 0 0 0 0 0 0 0) (api_Span.mk 0 0))).Site).Z) ((((lkM p0.radars p1.Name).getD (mosaic_Radar.mk (api_Site.mk ByteArray.empty 0 0 0 0 0 0 0) (api_Span.mk 0 0))).Site).Rose) ((((lkM p0.radars p1.Name).getD (mosaic_Radar.mk (api_Site.mk ByteArray.empty 0 0 0 0 0 0 0) (api_Span.mk 0 0))).Site).Gates) ((((lkM p0.radars p1.Name).getD (mosaic_Radar.mk (api_Site.mk ByteArray.empty 0 0 0 0 0 0 0) (api_Span.mk 0 0))).Site).Step) ((((lkM p0.radars p1.Name).getD (mosaic_Radar.mk (api_Site.mk ByteArray.empty 0 0 0 0 0 0 0) (api_Span.mk 0 0))).Site).Width)) p1.Tilt p0.spec.Earth a5).bind fun a3 =>
  C7 a1 a0 k2 a3.1.Lo a3.1.Hi) else (C7 a1 a0 k2 1 0)) else (Dv p0 p1 a1)
def Br (F:Nat) (p0:mosaic_Node) (p1:mosaic_Key) (a0:((List Int)×Int)):Nat→(List api_Span)→Int→Option ((List api_Span)×(List (mosaic_where×(List api_Span))))
  | 0,_,_=>none
  | n+1,a1,a2=>Du F p0 p1 a0 (Br F p0 p1 a0 n) a1 a2
def Dt (F:Nat) (p0:mosaic_Node) (p1:mosaic_Key):Option ((List api_Span)×(List (mosaic_where×(List api_Span)))) :=
  bif ((lkM p0.looks (mosaic_where.mk p1.Name p1.Tilt)).isSome) then (some (((lkM p0.looks (mosaic_where.mk p1.Name p1.Tilt)).getD []),p0.looks)) else ((Fi F (api_Site.mk ((((lkM p0.radars p1.Name).getD (mosaic_Radar.mk (api_Site.mk ByteArray.empty 0 0 0 0 0 0 0) (api_Span.mk 0 0))).Site).Name) ((((lkM p0.radars p1.Name).getD (mosaic_Radar.mk (api_Site.mk ByteArray.empty 0 0 0 0 0 0 0) (api_Span.mk 0 0))).Site).X) ((((lkM p0.radars p1.Name).getD (mosaic_Radar.mk (api_Site.mk ByteArray.empty 0 0 0 0 0 0 0) (api_Span.mk 0 0))).Site).Y) ((((lkM p0.radars p1.Name).getD (mosaic_Radar.mk (api_Site.mk ByteArray.empty 0 0 0 0 0 0 0) (api_Span.mk 0 0))).Site).Z) ((((lkM p0.radars p1.Name).getD (mosaic_Radar.mk (api_Site.mk ByteArray.empty 0 0 0 0 0 0 0) (api_Span.mk 0 0))).Site).Rose) ((((lkM p0.radars p1.Name).getD (mosaic_Radar.mk (api_Site.mk ByteArray.empty 0 0 0 0 0 0 0) (api_Span.mk 0 0))).Site).Gates) ((((lkM p0.radars p1.Name).getD (mosaic_Radar.mk (api_Site.mk ByteArray.empty 0 0 0 0 0 0 0) (api_Span.mk 0 0))).Site).Step) ((((lkM p0.radars p1.Name).getD (mosaic_Radar.mk (api_Site.mk ByteArray.empty 0 0 0 0 0 0 0) (api_Span.mk 0 0))).Site).Width)) p1.Tilt p0.spec.Grid).bind fun a0 =>
  Br F p0 p1 a0 F ([]) 0)
def El (a0:(List (mosaic_where×(List api_Span)))) (a1:(List mosaic_used)):Option ((List mosaic_used)×(List (mosaic_where×(List api_Span)))) :=
  some (a1,a0)
def Cr (a2:Int) (k3:((List (mosaic_where×(List api_Span)))→Int→(List mosaic_used)→Option ((List mosaic_used)×(List (mosaic_where×(List api_Span)))))) (a0:(List (mosaic_where×(List api_Span)))) (a1:(List mosaic_used)):Option ((List mosaic_used)×(List (mosaic_where×(List api_Span)))) :=
  (ck (a2+1)).bind fun a3 =>
  k3 a0 a3 a1
def Ej (F:Nat) (p0:mosaic_Node) (a4:(List (mosaic_where×mosaic_Key))) (a5:(List mosaic_Key)) (k3:((List (mosaic_where×(List api_Span)))→Int→(List mosaic_used)→Option ((List mosaic_used)×(List (mosaic_where×(List api_Span)))))) (a2:(List (mosaic_where×(List api_Span)))) (a1:Int) (a3:(List mosaic_used)):Option ((List mosaic_used)×(List (mosaic_where×(List api_Span)))) :=
  bif (decide (a1<((a5.length:Nat):Int))) then ((Be a5 a1).bind fun a0 =>
  bif (((((lkM a4 (mosaic_where.mk a0.Name a0.Tilt)).getD (mosaic_Key.mk ByteArray.empty 0 0)).Name)==a0.Name)&&(((((lkM a4 (mosaic_where.mk a0.Name a0.Tilt)).getD (mosaic_Key.mk ByteArray.empty 0 0)).Tilt:Int)==a0.Tilt)&&(((((lkM a4 (mosaic_where.mk a0.Name a0.Tilt)).getD (mosaic_Key.mk ByteArray.empty 0 0)).Time:Int)==a0.Time)&&true))) then ((Be ((lkM p0.kept a0).getD []) 0).bind fun a8 =>
  (Dt F (mosaic_Node.mk p0.spec p0.radars p0.horizon p0.kept p0.count a2) a0).bind fun a6 =>
  (apd 80 a3 ([(mosaic_used.mk a0 a8 a6.1)])).bind fun a7 =>
  Cr a1 k3 a6.2 a7) else (Cr a1 k3 a2 a3)) else (El a2 a3)
def C4 (F:Nat) (p0:mosaic_Node) (a0:(List (mosaic_where×mosaic_Key))) (a1:(List mosaic_Key)):Nat→(List (mosaic_where×(List api_Span)))→Int→(List mosaic_used)→Option ((List mosaic_used)×(List (mosaic_where×(List api_Span))))
  | 0,_,_,_=>none
  | n+1,a2,a4,a3=>Ej F p0 a0 a1 (C4 F p0 a0 a1 n) a2 a4 a3
def Cq (F:Nat) (p0:mosaic_Node) (a0:(List (mosaic_where×mosaic_Key))):Option ((List mosaic_used)×(List (mosaic_where×(List api_Span)))) :=
  (Fa F p0).bind fun a1 =>
  C4 F p0 a0 a1 F p0.looks 0 ([])
def Cs (a1:Int) (k5:((List (mosaic_where×mosaic_Key))→Int→Option ((List mosaic_used)×(List (mosaic_where×(List api_Span)))))) (a0:(List (mosaic_where×mosaic_Key))):Option ((List mosaic_used)×(List (mosaic_where×(List api_Span)))) :=
  (ck (a1+1)).bind fun a2 =>
  k5 a0 a2
def Ek (F:Nat) (p0:mosaic_Node) (p1:Int) (a4:(List mosaic_Key)) (k5:((List (mosaic_where×mosaic_Key))→Int→Option ((List mosaic_used)×(List (mosaic_where×(List api_Span)))))) (a2:(List (mosaic_where×mosaic_Key))) (a1:Int):Option ((List mosaic_used)×(List (mosaic_where×(List api_Span)))) :=
  bif (decide (a1<((a4.length:Nat):Int))) then ((Be a4 a1).bind fun a0 =>
  (gd (((((((lkM p0.kept a0).getD []).length:Nat):Int)==1)==true&&true)) (ck (a0.Time+((((lkM p0.radars a0.Name).getD (mosaic_Radar.mk (api_Site.mk ByteArray.empty 0 0 0 0 0 0 0) (api_Span.mk 0 0))).Offset).Hi))) 0).bind fun a3 =>
  (gd (((bif (((((lkM p0.kept a0).getD []).length:Nat):Int)==1) then (decide (a3≤p1)) else false)==true&&true)) (ck (p1-a0.Time)) 0).bind fun a5 =>
  (gd (((bif (((((lkM p0.kept a0).getD []).length:Nat):Int)==1) then (decide (a3≤p1)) else false)==true&&true)) (ck (a5-((((lkM p0.radars a0.Name).getD (mosaic_Radar.mk (api_Site.mk ByteArray.empty 0 0 0 0 0 0 0) (api_Span.mk 0 0))).Offset).Lo))) 0).bind fun a6 =>
  bif (bif (bif (((((lkM p0.kept a0).getD []).length:Nat):Int)==1) then (decide (a3≤p1)) else false) then (decide (a6≤p0.spec.Age)) else false) then (Cs a1 k5 (upM a2 (mosaic_where.mk a0.Name a0.Tilt) a0)) else (Cs a1 k5 a2)) else (Cq F p0 a2)
def C5 (F:Nat) (p0:mosaic_Node) (p1:Int) (a0:(List mosaic_Key)):Nat→(List (mosaic_where×mosaic_Key))→Int→Option ((List mosaic_used)×(List (mosaic_where×(List api_Span))))
  | 0,_,_=>none
  | n+1,a1,a2=>Ek F p0 p1 a0 (C5 F p0 p1 a0 n) a1 a2
def Eu (F:Nat) (p0:mosaic_Node) (p1:Int):Option ((List mosaic_used)×(List (mosaic_where×(List api_Span)))) :=
  (Fa F p0).bind fun a0 =>
  C5 F p0 p1 a0 F ([]:List (mosaic_where×mosaic_Key)) 0
def Ha (p0:api_Span):Bool :=
  decide (p0.Lo≤p0.Hi)
def E0 (a1:((List mosaic_used)×(List (mosaic_where×(List api_Span))))) (a0:(List mosaic_Pixel)):Option ((List mosaic_Pixel)×Int×(List (mosaic_where×(List api_Span)))) :=
  some (a0,0,a1.2)
def E2 (a1:Int) (k2:(Int→(List mosaic_Pixel)→Option ((List mosaic_Pixel)×Int×(List (mosaic_where×(List api_Span)))))) (a0:(List mosaic_Pixel)):Option ((List mosaic_Pixel)×Int×(List (mosaic_where×(List api_Span)))) :=
  (ck (a1+1)).bind fun a2 =>
  k2 a2 a0
def Cf (a3:Int) (a0:(List mosaic_Pixel)) (k2:(Int→(List mosaic_Pixel)→Option ((List mosaic_Pixel)×Int×(List (mosaic_where×(List api_Span)))))) (a4:Int) (a5:Int) (a2:ByteArray) (a6:Int) (a7:Int):Option ((List mosaic_Pixel)×Int×(List (mosaic_where×(List api_Span)))) :=
  (apd 48 a0 ([(mosaic_Pixel.mk (api_Span.mk a4 a5) (mosaic_Key.mk a2 a6 a7))])).bind fun a1 =>
  E2 a3 k2 a1
def Bt (a5:((List mosaic_used)×(List (mosaic_where×(List api_Span))))) (a1:Int) (a2:(List mosaic_Pixel)) (k2:(Int→(List mosaic_Pixel)→Option ((List mosaic_Pixel)×Int×(List (mosaic_where×(List api_Span)))))) (a4:Int):Option ((List mosaic_Pixel)×Int×(List (mosaic_where×(List api_Span)))) :=
  bif (decide (a4<0)) then (Cf a1 a2 k2 0 1000000 ByteArray.empty 0 0) else ((Be a5.1 a4).bind fun a0 =>
  (Be a0.vals a1).bind fun a3 =>
  Cf a1 a2 k2 a3.Lo a3.Hi a0.Key.Name a0.Key.Tilt a0.Key.Time)
def Bj (a0:Int) (k6:(Int→Int→Option ((List mosaic_Pixel)×Int×(List (mosaic_where×(List api_Span)))))) (a1:Int):Option ((List mosaic_Pixel)×Int×(List (mosaic_where×(List api_Span)))) :=
  (ck (a0+1)).bind fun a2 =>
  k6 a1 a2
def Dz (F:Nat) (a5:((List mosaic_used)×(List (mosaic_where×(List api_Span))))) (a2:Int) (a6:(List mosaic_Pixel)) (k2:(Int→(List mosaic_Pixel)→Option ((List mosaic_Pixel)×Int×(List (mosaic_where×(List api_Span)))))) (k6:(Int→Int→Option ((List mosaic_Pixel)×Int×(List (mosaic_where×(List api_Span)))))) (a4:Int) (a0:Int):Option ((List mosaic_Pixel)×Int×(List (mosaic_where×(List api_Span)))) :=
  bif (decide (a0<((a5.1.length:Nat):Int))) then ((Be a5.1 a0).bind fun a1 =>
  (Be a1.bands a2).bind fun a7 =>
  bif (!(Ha a7)) then (Bj a0 k6 a4) else (bif (decide (a4<0)) then (Bj a0 k6 a0) else ((Be a5.1 a4).bind fun a3 =>
  (Be a1.bands a2).bind fun a8 =>
  (Be a3.bands a2).bind fun a9 =>
  (Be a1.bands a2).bind fun aA =>
  (Be a3.bands a2).bind fun aB =>
  (Hv F ([(Ab a8.Hi a9.Hi),(Ab aA.Lo aB.Lo),(Ab a3.Key.Time a1.Key.Time),(B4 a1.Key.Name a3.Key.Name),(Ab a1.Key.Tilt a3.Key.Tilt)])).bind fun aC =>
  bif (decide (aC<0)) then (Bj a0 k6 a0) else (Bj a0 k6 a4)))) else (Bt a5 a2 a6 k2 a4)
def Bk (F:Nat) (a2:((List mosaic_used)×(List (mosaic_where×(List api_Span))))) (a1:Int) (a0:(List mosaic_Pixel)) (k2:(Int→(List mosaic_Pixel)→Option ((List mosaic_Pixel)×Int×(List (mosaic_where×(List api_Span)))))):Nat→Int→Int→Option ((List mosaic_Pixel)×Int×(List (mosaic_where×(List api_Span))))
  | 0,_,_=>none
  | n+1,a3,a4=>Dz F a2 a1 a0 k2 (Bk F a2 a1 a0 k2 n) a3 a4
def Dy (F:Nat) (a2:((List mosaic_used)×(List (mosaic_where×(List api_Span))))) (a3:Int) (k2:(Int→(List mosaic_Pixel)→Option ((List mosaic_Pixel)×Int×(List (mosaic_where×(List api_Span)))))) (a1:Int) (a0:(List mosaic_Pixel)):Option ((List mosaic_Pixel)×Int×(List (mosaic_where×(List api_Span)))) :=
  bif (decide (a1<a3)) then (Bk F a2 a1 a0 k2 F (-1) 0) else (E0 a2 a0)
def B0 (F:Nat) (a1:((List mosaic_used)×(List (mosaic_where×(List api_Span))))) (a0:Int):Nat→Int→(List mosaic_Pixel)→Option ((List mosaic_Pixel)×Int×(List (mosaic_where×(List api_Span))))
  | 0,_,_=>none
  | n+1,a3,a2=>Dy F a1 a0 (B0 F a1 a0 n) a3 a2
def D3 (F:Nat) (p0:mosaic_Node) (p1:Int):Option ((List mosaic_Pixel)×Int×(List (mosaic_where×(List api_Span)))) :=
  (D5 F p0 p1).bind fun a0 =>
  bif (a0 != 0) then (some (([]:(List mosaic_Pixel)),a0,p0.looks)) else ((Eu F p0 p1).bind fun a2 =>
  (ck (p0.spec.Grid.Wide*p0.spec.Grid.High)).bind fun a1 =>
  B0 F a2 a1 F 0 ([]))
def A9 (p0:Int):api_Span :=
  (api_Span.mk p0 p0)
def law11_S:mosaic_Spec :=
  (mosaic_Spec.mk (api_Grid.mk (-2000) (-1000) 1000 4 2) (A9 8000000) ([(mosaic_Radar.mk (api_Site.mk (⟨#[97]⟩:ByteArray) (-1500) (-500) 100 1 3 1000 0) (api_Span.mk 0 0)),(mosaic_Radar.mk (api_Site.mk (⟨#[98]⟩:ByteArray) 1500 (-500) 100 1 3 1000 0) (api_Span.mk 5 10))]) 600)
def Gu (p0:ByteArray) (p1:Int) (a0:(List api_Span)):Option mosaic_Message :=
  some (mosaic_Message.mk (mosaic_Key.mk p0 0 p1) a0)
def Gt (p0:ByteArray) (p1:Int) (p2:Int) (k2:((List api_Span)→Int→Option mosaic_Message)) (a0:(List api_Span)) (a1:Int):Option mosaic_Message :=
  bif (decide (a1<8)) then ((apd 16 a0 ([(A9 p2)])).bind fun a2 =>
  (ck (a1+1)).bind fun a3 =>
  k2 a2 a3) else (Gu p0 p1 a0)
def Fm (p0:ByteArray) (p1:Int) (p2:Int):Nat→(List api_Span)→Int→Option mosaic_Message
  | 0,_,_=>none
  | n+1,a0,a1=>Gt p0 p1 p2 (Fm p0 p1 p2 n) a0 a1
def H5 (F:Nat) (p0:ByteArray) (p1:Int) (p2:Int):Option mosaic_Message :=
  Fm p0 p1 p2 F ([]) 0
def H9 (F:Nat):Option Bool :=
  (Gv F (mosaic_Spec.mk (api_Grid.mk law11_S.Grid.X law11_S.Grid.Y law11_S.Grid.Size law11_S.Grid.Wide law11_S.Grid.High) (api_Span.mk law11_S.Earth.Lo law11_S.Earth.Hi) law11_S.Radars law11_S.Age)).bind fun y7 =>
  exc y7 (fun a7=>bif (a7 != 0) then (some false) else (none)) (fun a2=>bif (a2.2 != 0) then (some false) else ((H5 F (⟨#[97]⟩:ByteArray) 100 5).bind fun a8 =>
  (C2 F (mosaic_Node.mk (mosaic_Spec.mk (api_Grid.mk a2.1.spec.Grid.X a2.1.spec.Grid.Y a2.1.spec.Grid.Size a2.1.spec.Grid.Wide a2.1.spec.Grid.High) (api_Span.mk a2.1.spec.Earth.Lo a2.1.spec.Earth.Hi) a2.1.spec.Radars a2.1.spec.Age) a2.1.radars a2.1.horizon a2.1.kept a2.1.count a2.1.looks) a8).bind fun a0 =>
  (H5 F (⟨#[98]⟩:ByteArray) 100 7).bind fun a9 =>
  (C2 F (mosaic_Node.mk (mosaic_Spec.mk (api_Grid.mk a0.2.2.spec.Grid.X a0.2.2.spec.Grid.Y a0.2.2.spec.Grid.Size a0.2.2.spec.Grid.Wide a0.2.2.spec.Grid.High) (api_Span.mk a0.2.2.spec.Earth.Lo a0.2.2.spec.Earth.Hi) a0.2.2.spec.Radars a0.2.2.spec.Age) a0.2.2.radars a0.2.2.horizon a0.2.2.kept a0.2.2.count a0.2.2.looks) a9).bind fun a1 =>
  (D3 F (mosaic_Node.mk (mosaic_Spec.mk (api_Grid.mk a1.2.2.spec.Grid.X a1.2.2.spec.Grid.Y a1.2.2.spec.Grid.Size a1.2.2.spec.Grid.Wide a1.2.2.spec.Grid.High) (api_Span.mk a1.2.2.spec.Earth.Lo a1.2.2.spec.Earth.Hi) a1.2.2.spec.Radars a1.2.2.spec.Age) a1.2.2.radars a1.2.2.horizon a1.2.2.kept a1.2.2.count a1.2.2.looks) 110).bind fun a3 =>
  (gd (((bif (bif (bif (bif (bif a0.1 then a1.1 else false) then (a0.2.1==0) else false) then (a1.2.1==0) else false) then (a3.2.1==0) else false) then (((a3.1.length:Nat):Int)==8) else false)==true&&true)) (Be a3.1 0) default).bind fun a4 =>
  (gd (((bif (bif (bif (bif (bif (bif a0.1 then a1.1 else false) then (a0.2.1==0) else false) then (a1.2.1==0) else false) then (a3.2.1==0) else false) then (((a3.1.length:Nat):Int)==8) else false) then (((a4.Value_.Lo:Int)==(A9 5).Lo)&&(((a4.Value_.Hi:Int)==(A9 5).Hi)&&true)) else false)==true&&true)) (Be a3.1 2) default).bind fun a5 =>
  (gd (((bif (bif (bif (bif (bif (bif (bif a0.1 then a1.1 else false) then (a0.2.1==0) else false) then (a1.2.1==0) else false) then (a3.2.1==0) else false) then (((a3.1.length:Nat):Int)==8) else false) then (((a4.Value_.Lo:Int)==(A9 5).Lo)&&(((a4.Value_.Hi:Int)==(A9 5).Hi)&&true)) else false) then ((a5.Key.Name==(⟨#[97]⟩:ByteArray))&&(((a5.Key.Tilt:Int)==0)&&(((a5.Key.Time:Int)==100)&&true))) else false)==true&&true)) (Be a3.1 3) default).bind fun a6 =>
  some (bif (bif (bif (bif (bif (bif (bif (bif a0.1 then a1.1 else false) then (a0.2.1==0) else false) then (a1.2.1==0) else false) then (a3.2.1==0) else false) then (((a3.1.length:Nat):Int)==8) else false) then (((a4.Value_.Lo:Int)==(A9 5).Lo)&&(((a4.Value_.Hi:Int)==(A9 5).Hi)&&true)) else false) then ((a5.Key.Name==(⟨#[97]⟩:ByteArray))&&(((a5.Key.Tilt:Int)==0)&&(((a5.Key.Time:Int)==100)&&true))) else false) then ((((a6.Value_.Lo:Int)==(A9 7).Lo)&&(((a6.Value_.Hi:Int)==(A9 7).Hi)&&true))&&(((a6.Key.Name==(⟨#[98]⟩:ByteArray))&&(((a6.Key.Tilt:Int)==0)&&(((a6.Key.Time:Int)==100)&&true)))&&true)) else false)))
def Gg (x6:Int) (x9:Int) (a1:Int) (a0:(List mosaic_Radar)):Option mosaic_Spec :=
  some (mosaic_Spec.mk (api_Grid.mk (-2000) (-2000) 1000 x6 x9) (api_Span.mk 8000000 9000000) a0 a1)
def Dr (p0:law11_Net) (x6:Int) (x9:Int) (aB:Int) (k2:((List mosaic_Radar)→Int→Option mosaic_Spec)) (a1:(List mosaic_Radar)) (a0:Int):Option mosaic_Spec :=
  (ck p0.Count).bind fun aC =>
  (Dh aC 3).bind fun aD =>
  bif (decide (a0≤aD)) then (bif (a0==0) then ((ck p0.Stations.1.Lo).bind fun aE =>
  (Dh aE 601).bind fun aF =>
  (ck (aF-300)).bind fun a2 =>
  (Be ([(⟨#[97]⟩:ByteArray),(⟨#[98]⟩:ByteArray),(⟨#[99]⟩:ByteArray)]) a0).bind fun a8 =>
  (ck p0.Stations.1.X).bind fun aG =>
  (Dh aG 4000).bind fun aH =>
  (ck p0.Stations.1.Y).bind fun aI =>
  (Dh aI 4000).bind fun aJ =>
  (ck p0.Stations.1.Z).bind fun aK =>
  (Dh aK 1000).bind fun aL =>
  (ck p0.Stations.1.Rose).bind fun aM =>
  (Dh aM 3).bind fun aN =>
  (ck (1+aN)).bind fun aO =>
  (ck p0.Stations.1.Gates).bind fun aP =>
  (Dh aP 5).bind fun aQ =>
  (ck (1+aQ)).bind fun aR =>
  (ck p0.Stations.1.Width).bind fun aS =>
  (Dh aS 3).bind fun aT =>
  (ck p0.Stations.1.Hi).bind fun aU =>
  (Dh aU 300).bind fun aV =>
  (ck (a2+aV)).bind fun aW =>
  (apd 88 a1 ([(mosaic_Radar.mk (api_Site.mk a8 aH aJ aL aO aR 1000 aT) (api_Span.mk a2 aW))])).bind fun a5 =>
  (ck (a0+1)).bind fun aX =>
  k2 a5 aX) else (bif (a0==1) then ((ck p0.Stations.2.1.Lo).bind fun aY =>
  (Dh aY 601).bind fun aZ =>
  (ck (aZ-300)).bind fun a3 =>
  (Be ([(⟨#[97]⟩:ByteArray),(⟨#[98]⟩:ByteArray),(⟨#[99]⟩:ByteArray)]) a0).bind fun a9 =>
  (ck p0.Stations.2.1.X).bind fun b0 =>
  (Dh b0 4000).bind fun b1 =>
  (ck p0.Stations.2.1.Y).bind fun b2 =>
  (Dh b2 4000).bind fun b3 =>
  (ck p0.Stations.2.1.Z).bind fun b4 =>
  (Dh b4 1000).bind fun b5 =>
  (ck p0.Stations.2.1.Rose).bind fun b6 =>
  (Dh b6 3).bind fun b7 =>
  (ck (1+b7)).bind fun b8 =>
  (ck p0.Stations.2.1.Gates).bind fun b9 =>
  (Dh b9 5).bind fun bA =>
  (ck (1+bA)).bind fun bB =>
  (ck p0.Stations.2.1.Width).bind fun bC =>
  (Dh bC 3).bind fun bD =>
  (ck p0.Stations.2.1.Hi).bind fun bE =>
  (Dh bE 300).bind fun bF =>
  (ck (a3+bF)).bind fun bG =>
  (apd 88 a1 ([(mosaic_Radar.mk (api_Site.mk a9 b1 b3 b5 b8 bB 1000 bD) (api_Span.mk a3 bG))])).bind fun a6 =>
  (ck (a0+1)).bind fun bH =>
  k2 a6 bH) else (bif (a0==2) then ((ck p0.Stations.2.2.Lo).bind fun bI =>
  (Dh bI 601).bind fun bJ =>
  (ck (bJ-300)).bind fun a4 =>
  (Be ([(⟨#[97]⟩:ByteArray),(⟨#[98]⟩:ByteArray),(⟨#[99]⟩:ByteArray)]) a0).bind fun aA =>
  (ck p0.Stations.2.2.X).bind fun bK =>
  (Dh bK 4000).bind fun bL =>
  (ck p0.Stations.2.2.Y).bind fun bM =>
  (Dh bM 4000).bind fun bN =>
  (ck p0.Stations.2.2.Z).bind fun bO =>
  (Dh bO 1000).bind fun bP =>
  (ck p0.Stations.2.2.Rose).bind fun bQ =>
  (Dh bQ 3).bind fun bR =>
  (ck (1+bR)).bind fun bS =>
  (ck p0.Stations.2.2.Gates).bind fun bT =>
  (Dh bT 5).bind fun bU =>
  (ck (1+bU)).bind fun bV =>
  (ck p0.Stations.2.2.Width).bind fun bW =>
  (Dh bW 3).bind fun bX =>
  (ck p0.Stations.2.2.Hi).bind fun bY =>
  (Dh bY 300).bind fun bZ =>
  (ck (a4+bZ)).bind fun c0 =>
  (apd 88 a1 ([(mosaic_Radar.mk (api_Site.mk aA bL bN bP bS bV 1000 bX) (api_Span.mk a4 c0))])).bind fun a7 =>
  (ck (a0+1)).bind fun c1 =>
  k2 a7 c1) else (none)))) else (Gg x6 x9 aB a1)
def Bd (p0:law11_Net) (x6:Int) (x9:Int) (a0:Int):Nat→(List mosaic_Radar)→Int→Option mosaic_Spec
  | 0,_,_=>none
  | n+1,a1,a2=>Dr p0 x6 x9 a0 (Bd p0 x6 x9 a0 n) a1 a2
def Ea (F:Nat) (p0:law11_Net):Option mosaic_Spec :=
  (ck p0.Wide).bind fun x4 =>
  (Dh x4 4).bind fun x5 =>
  (ck (1+x5)).bind fun x6 =>
  (ck p0.High).bind fun x7 =>
  (Dh x7 4).bind fun x8 =>
  (ck (1+x8)).bind fun x9 =>
  (ck p0.Age).bind fun a0 =>
  (Dh a0 2000).bind fun a1 =>
  (ck (1+a1)).bind fun a2 =>
  Bd p0 x6 x9 a2 F ([]) 0
def Ei (a1:mosaic_Radar) (a2:Int) (a3:Int) (a0:(List api_Span)):Option mosaic_Message :=
  some (mosaic_Message.mk (mosaic_Key.mk a1.Site.Name a2 a3) a0)
def Cp (p0:law11_Post) (a1:(List api_Span)) (a3:Int) (k2:((List api_Span)→Int→Option mosaic_Message)) (a0:Int):Option mosaic_Message :=
  (ck p0.Wide).bind fun a4 =>
  (ck (a0+a4)).bind fun a5 =>
  (apd 16 a1 ([(api_Span.mk a0 a5)])).bind fun a2 =>
  (ck (a3+1)).bind fun a6 =>
  k2 a2 a6
def Eh (p0:law11_Post) (p1:mosaic_Spec) (a2:mosaic_Radar) (a5:Int) (a8:Int) (k2:((List api_Span)→Int→Option mosaic_Message)) (a1:(List api_Span)) (a0:Int):Option mosaic_Message :=
  (ck (p1.Grid.Wide*p1.Grid.High)).bind fun a4 =>
  bif (decide (a0<a4)) then (bif (decide (((p0.Vals.length:Nat):Int)>0)) then ((Dh a0 ((p0.Vals.length:Nat):Int)).bind fun a6 =>
  (Be p0.Vals a6).bind fun a3 =>
  (ck a3).bind fun a7 =>
  Cp p0 a1 a0 k2 a7) else (Cp p0 a1 a0 k2 0)) else (Ei a2 a5 a8 a1)
def C1 (p0:law11_Post) (p1:mosaic_Spec) (a0:mosaic_Radar) (a1:Int) (a2:Int):Nat→(List api_Span)→Int→Option mosaic_Message
  | 0,_,_=>none
  | n+1,a3,a4=>Eh p0 p1 a0 a1 a2 (C1 p0 p1 a0 a1 a2 n) a3 a4
def Et (F:Nat) (p0:law11_Post) (p1:mosaic_Spec):Option mosaic_Message :=
  (ck p0.Radar).bind fun a1 =>
  (Dh a1 ((p1.Radars.length:Nat):Int)).bind fun a2 =>
  (Be p1.Radars a2).bind fun a0 =>
  (ck p0.Tilt).bind fun a3 =>
  (Dh a3 4).bind fun a4 =>
  (ck p0.Time).bind fun a5 =>
  (Dh a5 2000).bind fun a6 =>
  C1 p0 p1 a0 a4 a6 F ([]) 0
def E5 (a0:(List mosaic_Message)):Option (List mosaic_Message) :=
  some a0
def E6 (a1:Int) (k2:(Int→(List mosaic_Message)→Option (List mosaic_Message))) (a0:(List mosaic_Message)):Option (List mosaic_Message) :=
  (ck (a1+1)).bind fun a2 =>
  k2 a2 a0
def E4 (F:Nat) (p0:mosaic_Node) (a5:Int) (k2:(Int→(List mosaic_Message)→Option (List mosaic_Message))) (a0:mosaic_Key) (k4:(Int→(List mosaic_Message)→Option (List mosaic_Message))) (a1:Int) (a2:(List mosaic_Message)):Option (List mosaic_Message) :=
  bif (decide (a1<((((lkM p0.kept a0).getD []).length:Nat):Int))) then ((Be ((lkM p0.kept a0).getD []) a1).bind fun a4 =>
  (Au F a4).bind fun a7 =>
  (apd 56 a2 ([(mosaic_Message.mk a0 a7)])).bind fun a3 =>
  (ck (a1+1)).bind fun a6 =>
  k4 a6 a3) else (E6 a5 k2 a2)
def Cg (F:Nat) (p0:mosaic_Node) (a1:Int) (k2:(Int→(List mosaic_Message)→Option (List mosaic_Message))) (a0:mosaic_Key):Nat→Int→(List mosaic_Message)→Option (List mosaic_Message)
  | 0,_,_=>none
  | n+1,a3,a2=>E4 F p0 a1 k2 a0 (Cg F p0 a1 k2 a0 n) a3 a2
def E3 (F:Nat) (p0:mosaic_Node) (a2:(List mosaic_Key)) (k2:(Int→(List mosaic_Message)→Option (List mosaic_Message))) (a0:Int) (a1:(List mosaic_Message)):Option (List mosaic_Message) :=
  bif (decide (a0<((a2.length:Nat):Int))) then ((Be a2 a0).bind fun a3 =>
  Cg F p0 a0 k2 a3 F 0 a1) else (E5 a1)
def Bu (F:Nat) (p0:mosaic_Node) (a0:(List mosaic_Key)):Nat→Int→(List mosaic_Message)→Option (List mosaic_Message)
  | 0,_,_=>none
  | n+1,a2,a1=>E3 F p0 a0 (Bu F p0 a0 n) a2 a1
def D4 (F:Nat) (p0:mosaic_Node):Option (List mosaic_Message) :=
  (Fa F p0).bind fun a0 =>
  Bu F p0 a0 F 0 ([])
def Jh:Option Bool :=
  some false
def H4 (p0:mosaic_Spec) (p1:mosaic_Key) (p2:Int) (k2:(Int→Option Bool)) (a1:Int):Option Bool :=
  bif (decide (a1<((p0.Radars.length:Nat):Int))) then ((Be p0.Radars a1).bind fun a0 =>
  bif (sEq a0.Site.Name p1.Name) then ((ck (p1.Time+a0.Offset.Hi)).bind fun a2 =>
  (gd (((decide (a2≤p2))==true&&true)) (ck (p1.Time+a0.Offset.Lo)) 0).bind fun a3 =>
  (gd (((decide (a2≤p2))==true&&true)) (ck (a3+p0.Age)) 0).bind fun a4 =>
  some (bif (decide (a2≤p2)) then (decide (p2≤a4)) else false)) else ((ck (a1+1)).bind fun a5 =>
  k2 a5)) else (Jh)
def Ey (p0:mosaic_Spec) (p1:mosaic_Key) (p2:Int):Nat→Int→Option Bool
  | 0,_=>none
  | n+1,a0=>H4 p0 p1 p2 (Ey p0 p1 p2 n) a0
def K9 (F:Nat) (p0:mosaic_Spec) (p1:mosaic_Key) (p2:Int):Option Bool :=
  Ey p0 p1 p2 F 0
def Jf:Option (api_Span×Bool) :=
  some ((api_Span.mk 0 0),false)
def Fw (F:Nat) (p0:mosaic_Spec) (p1:mosaic_Key) (p2:Int) (k2:(Int→Option (api_Span×Bool))) (a2:Int):Option (api_Span×Bool) :=
  bif (decide (a2<((p0.Radars.length:Nat):Int))) then ((Be p0.Radars a2).bind fun a1 =>
  bif (!(sEq a1.Site.Name p1.Name)) then ((ck (a2+1)).bind fun a6 =>
  k2 a6) else ((Fi F a1.Site p1.Tilt p0.Grid).bind fun a0 =>
  (gd (((bif (a0.2 != 0) then true else (decide (p2≥((a0.1.length:Nat):Int))))==false&&true)) (Be a0.1 p2) default).bind fun a4 =>
  bif (bif (bif (a0.2 != 0) then true else (decide (p2≥((a0.1.length:Nat):Int)))) then true else (decide (a4<0))) then (some ((api_Span.mk 0 0),false)) else ((Be a0.1 p2).bind fun a5 =>
  (Dh a5 a1.Site.Gates).bind fun a7 =>
  (Hq F a1.Site p1.Tilt p0.Earth a7).bind fun a3 =>
  some ((api_Span.mk a3.1.Lo a3.1.Hi),a3.2==0)))) else (Jf)
def D0 (F:Nat) (p0:mosaic_Spec) (p1:mosaic_Key) (p2:Int):Nat→Int→Option (api_Span×Bool)
  | 0,_=>none
  | n+1,a0=>Fw F p0 p1 p2 (D0 F p0 p1 p2 n) a0
def Gs (F:Nat) (p0:mosaic_Spec) (p1:mosaic_Key) (p2:Int):Option (api_Span×Bool) :=
  D0 F p0 p1 p2 F 0
def F8 (l:List mosaic_Key):List (mosaic_Key×Bool):=l.foldl (fun B k=>upM B k true) []
def Ru (p0:mosaic_Node) (G:List (mosaic_Key×Bool)) (x:mosaic_Message):Bool:=!((lkM G x.Key).getD false&&((((lkM p0.kept x.Key).getD []).length:Int)==1))
def Fb (F:Nat) (p0:mosaic_Node) (p1:List mosaic_Key):Option (List mosaic_Message×Int) :=
  if 256<p1.length then some ([],9) else (D4 F p0).bind fun l=>if l.length≤1000000 then some (l.filter (Ru p0 (F8 p1)),0) else none
def Bf (F:Nat):Option Bool :=
  (H9 F).bind fun a0 =>
  some a0
def Cv (a0:Int) (k4:(Int→Option Bool)):Option Bool :=
  (ck (a0+1)).bind fun a1 =>
  k4 a1
def Dq (a5:((List mosaic_Pixel)×Int×(List (mosaic_where×(List api_Span))))) (a3:Int) (k4:(Int→Option Bool)) (a0:Bool) (a2:Bool):Option Bool :=
  (gd (((!a0)==true&&((!(a0==a2))==false&&true))) (Be a5.1 a3) default).bind fun a1 =>
  (gd (((!((a1.Key.Name==ByteArray.empty)&&(((a1.Key.Tilt:Int)==0)&&(((a1.Key.Time:Int)==0)&&true))))==false&&((!a0)==true&&((!(a0==a2))==false&&true)))) (Be a5.1 a3) default).bind fun a4 =>
  bif (bif (!(a0==a2)) then true else (bif (!a0) then (bif (!((a1.Key.Name==ByteArray.empty)&&(((a1.Key.Tilt:Int)==0)&&(((a1.Key.Time:Int)==0)&&true)))) then true else (!(((a4.Value_.Lo:Int)==0)&&(((a4.Value_.Hi:Int)==1000000)&&true)))) else false)) then (some false) else (Cv a3 k4)
def B3 (a2:Int) (k7:(Bool→Bool→Int→Option Bool)) (a0:Bool) (a1:Bool):Option Bool :=
  (ck (a2+1)).bind fun a3 =>
  k7 a0 a1 a3
def Bo (a9:((List mosaic_Pixel)×Int×(List (mosaic_where×(List api_Span))))) (aC:(List mosaic_Message)) (a6:Int) (a3:(api_Span×Bool)) (aA:Bool) (a4:Bool) (a5:Int) (k7:(Bool→Bool→Int→Option Bool)) (a0:mosaic_Message) (a2:(api_Span×Bool)) (aB:Bool):Option Bool :=
  bif (bif (!a2.2) then true else (!aB)) then (B3 a5 k7 aA a4) else ((gd ((a4==false&&true)) (Be a9.1 a6) default).bind fun a1 =>
  bif ((a0.Key.Name==a1.Key.Name)&&(((a0.Key.Tilt:Int)==a1.Key.Tilt)&&(((a0.Key.Time:Int)==a1.Key.Time)&&true))) then (bif a4 then (bif (bif (decide (a2.1.Lo<a3.1.Lo)) then (decide (a2.1.Hi<a3.1.Hi)) else false) then (some false) else (B3 a5 k7 true (bif a4 then true else false))) else (bif ((a0.Key.Name==a1.Key.Name)&&(((a0.Key.Tilt:Int)==a1.Key.Tilt)&&(((a0.Key.Time:Int)==a1.Key.Time)&&true))) then ((Be aC a5).bind fun aD =>
  (Be aD.Vals a6).bind fun a7 =>
  (Be a9.1 a6).bind fun a8 =>
  bif (bif (decide (a2.1.Lo<a3.1.Lo)) then (decide (a2.1.Hi<a3.1.Hi)) else false) then (some false) else (B3 a5 k7 true (bif a4 then true else (bif ((a0.Key.Name==a1.Key.Name)&&(((a0.Key.Tilt:Int)==a1.Key.Tilt)&&(((a0.Key.Time:Int)==a1.Key.Time)&&true))) then (((a7.Lo:Int)==a8.Value_.Lo)&&(((a7.Hi:Int)==a8.Value_.Hi)&&true)) else false)))) else (bif (bif (decide (a2.1.Lo<a3.1.Lo)) then (decide (a2.1.Hi<a3.1.Hi)) else false) then (some false) else (B3 a5 k7 true (bif a4 then true else (bif ((a0.Key.Name==a1.Key.Name)&&(((a0.Key.Tilt:Int)==a1.Key.Tilt)&&(((a0.Key.Time:Int)==a1.Key.Time)&&true))) then false else false)))))) else (bif (bif (decide (a2.1.Lo<a3.1.Lo)) then (decide (a2.1.Hi<a3.1.Hi)) else false) then (some false) else (B3 a5 k7 true (bif a4 then true else (bif ((a0.Key.Name==a1.Key.Name)&&(((a0.Key.Tilt:Int)==a1.Key.Tilt)&&(((a0.Key.Time:Int)==a1.Key.Time)&&true))) then false else false)))))
def D9 (aD:((List mosaic_Pixel)×Int×(List (mosaic_where×(List api_Span))))) (a1:(List mosaic_Message)) (a8:Int) (aB:(api_Span×Bool)) (a5:Bool) (a6:Bool) (a9:Int) (k7:(Bool→Bool→Int→Option Bool)) (a0:mosaic_Message) (aC:(api_Span×Bool)) (a7:(Bool→Int→Option Bool)) (a4:Bool) (a3:Int):Option Bool :=
  bif (decide (a3<((a1.length:Nat):Int))) then ((Be a1 a3).bind fun a2 =>
  (ck (a3+1)).bind fun aA =>
  a7 (bif a4 then (bif (bif (!(sEq a2.Key.Name a0.Key.Name)) then true else (a2.Key.Tilt != a0.Key.Tilt)) then true else (decide (a2.Key.Time≤a0.Key.Time))) else false) aA) else (Bo aD a1 a8 aB a5 a6 a9 k7 a0 aC a4)
def Bl (a8:((List mosaic_Pixel)×Int×(List (mosaic_where×(List api_Span))))) (a2:(List mosaic_Message)) (a4:Int) (a6:(api_Span×Bool)) (a0:Bool) (a1:Bool) (a5:Int) (k7:(Bool→Bool→Int→Option Bool)) (a3:mosaic_Message) (a7:(api_Span×Bool)):Nat→Bool→Int→Option Bool
  | 0,_,_=>none
  | n+1,a9,aA=>D9 a8 a2 a4 a6 a0 a1 a5 k7 a3 a7 (Bl a8 a2 a4 a6 a0 a1 a5 k7 a3 a7 n) a9 aA
def Dp (F:Nat) (y8:mosaic_Spec) (a6:((List mosaic_Pixel)×Int×(List (mosaic_where×(List api_Span))))) (a0:(List mosaic_Message)) (a1:Int) (k4:(Int→Option Bool)) (a7:(api_Span×Bool)) (k7:(Bool→Bool→Int→Option Bool)) (a3:Bool) (a4:Bool) (a2:Int):Option Bool :=
  bif (decide (a2<((a0.length:Nat):Int))) then ((Be a0 a2).bind fun a5 =>
  (Gs F y8 a5.Key a1).bind fun a8 =>
  Bl a6 a0 a1 a7 a3 a4 a2 k7 a5 a8 F true 0) else (Dq a6 a1 k4 a3 a4)
def Bg (F:Nat) (y8:mosaic_Spec) (a3:((List mosaic_Pixel)×Int×(List (mosaic_where×(List api_Span))))) (a0:(List mosaic_Message)) (a1:Int) (k4:(Int→Option Bool)) (a2:(api_Span×Bool)):Nat→Bool→Bool→Int→Option Bool
  | 0,_,_,_=>none
  | n+1,a4,a5,a6=>Dp F y8 a3 a0 a1 k4 a2 (Bg F y8 a3 a0 a1 k4 a2 n) a4 a5 a6
def Do (F:Nat) (y8:mosaic_Spec) (a1:((List mosaic_Pixel)×Int×(List (mosaic_where×(List api_Span))))) (a2:(List mosaic_Message)) (k4:(Int→Option Bool)) (a0:Int):Option Bool :=
  bif (decide (a0<((a1.1.length:Nat):Int))) then ((Be a1.1 a0).bind fun a3 =>
  (Gs F y8 a3.Key a0).bind fun a4 =>
  Bg F y8 a1 a2 a0 k4 a4 F false false 0) else (Bf F)
def Bp (F:Nat) (y8:mosaic_Spec) (a1:((List mosaic_Pixel)×Int×(List (mosaic_where×(List api_Span))))) (a0:(List mosaic_Message)):Nat→Int→Option Bool
  | 0,_=>none
  | n+1,a2=>Do F y8 a1 a0 (Bp F y8 a1 a0 n) a2
def Cu (F:Nat) (y8:mosaic_Spec) (a1:((List mosaic_Pixel)×Int×(List (mosaic_where×(List api_Span))))) (a0:(List mosaic_Message)):Option Bool :=
  Bp F y8 a1 a0 F 0
def Cj (a2:Int) (a0:((List mosaic_Message)→Int→Option Bool)) (a1:(List mosaic_Message)):Option Bool :=
  (ck (a2+1)).bind fun a3 =>
  a0 a1 a3
def Ck (a6:((List mosaic_Message)×Int)) (a2:(List mosaic_Message)) (a0:Int) (a1:((List mosaic_Message)→Int→Option Bool)) (a3:Bool):Option Bool :=
  bif a3 then ((Be a6.1 a0).bind fun a5 =>
  (apd 56 a2 ([a5])).bind fun a4 =>
  Cj a0 a1 a4) else (Cj a0 a1 a2)
def Db (aA:((List mosaic_Message)×Int)) (a4:(List mosaic_Key)) (a7:(List mosaic_Message)) (a8:Int) (a5:((List mosaic_Message)→Int→Option Bool)) (a1:mosaic_Message) (a6:(Bool→Int→Option Bool)) (a0:Bool) (a3:Int):Option Bool :=
  bif (decide (a3<((a4.length:Nat):Int))) then ((gd ((a0==true&&true)) (Be a4 a3) default).bind fun a2 =>
  (ck (a3+1)).bind fun a9 =>
  a6 (bif a0 then (!((a2.Name==a1.Key.Name)&&(((a2.Tilt:Int)==a1.Key.Tilt)&&(((a2.Time:Int)==a1.Key.Time)&&true)))) else false) a9) else (Ck aA a7 a8 a5 a0)
def Bm (a4:((List mosaic_Message)×Int)) (a5:(List mosaic_Key)) (a1:(List mosaic_Message)) (a3:Int) (a0:((List mosaic_Message)→Int→Option Bool)) (a2:mosaic_Message):Nat→Bool→Int→Option Bool
  | 0,_,_=>none
  | n+1,a6,a7=>Db a4 a5 a1 a3 a0 a2 (Bm a4 a5 a1 a3 a0 a2 n) a6 a7
def Da (F:Nat) (y8:mosaic_Spec) (a5:Int) (a1:((List mosaic_Message)×Int)) (a7:((List mosaic_Pixel)×Int×(List (mosaic_where×(List api_Span))))) (a8:(List mosaic_Key)) (a4:((List mosaic_Message)→Int→Option Bool)) (a2:(List mosaic_Message)) (a0:Int):Option Bool :=
  bif (decide (a0<((a1.1.length:Nat):Int))) then ((Be a1.1 a0).bind fun a3 =>
  (K9 F y8 a3.Key a5).bind fun a6 =>
  Bm a1 a8 a2 a0 a4 a3 F a6 0) else (Cu F y8 a7 a2)
def B5 (F:Nat) (y8:mosaic_Spec) (a0:Int) (a1:((List mosaic_Message)×Int)) (a2:((List mosaic_Pixel)×Int×(List (mosaic_where×(List api_Span))))) (a3:(List mosaic_Key)):Nat→(List mosaic_Message)→Int→Option Bool
  | 0,_,_=>none
  | n+1,a4,a5=>Da F y8 a0 a1 a2 a3 (B5 F y8 a0 a1 a2 a3 n) a4 a5
def Ct (F:Nat) (p2:Int) (y8:mosaic_Spec) (a4:Int) (a5:Int) (a6:Int) (a7:Int) (a8:Int) (a9:Int) (aA:Int) (aB:Int) (aC:Int) (a1:(List mosaic_Radar)) (aD:Int) (a2:(List (ByteArray×mosaic_Radar))) (a3:(List (mosaic_Key×(List (List api_Span))))) (aF:(List (mosaic_where×(List api_Span)))):Option Bool :=
  (ck p2).bind fun aH =>
  (Dh aH 4000).bind fun aG =>
  (Fb F (mosaic_Node.mk (mosaic_Spec.mk (api_Grid.mk a4 a5 a8 a9 aA) (api_Span.mk aB aC) a1 aD) a2 a6 a3 a7 aF) ([]:(List mosaic_Key))).bind fun aE =>
  (D3 F (mosaic_Node.mk (mosaic_Spec.mk (api_Grid.mk a4 a5 a8 a9 aA) (api_Span.mk aB aC) a1 aD) a2 a6 a3 a7 aF) aG).bind fun a0 =>
  (gd (((bif (aE.2 != 0) then true else (a0.2.1 != 0))==false&&true)) (ck (y8.Grid.Wide*y8.Grid.High)) 0).bind fun aI =>
  bif (bif (bif (aE.2 != 0) then true else (a0.2.1 != 0)) then true else (((a0.1.length:Nat):Int) != aI)) then (some false) else ((D1 F (mosaic_Node.mk (mosaic_Spec.mk (api_Grid.mk a4 a5 a8 a9 aA) (api_Span.mk aB aC) a1 aD) a2 a6 a3 a7 a0.2.2)).bind fun aJ =>
  B5 F y8 aG aE a0 aJ F ([]) 0)
def Dc (F:Nat) (p1:(List law11_Post)) (p2:Int) (y8:mosaic_Spec) (aG:(Int→Int→Int→Int→Int→Int→Int→Int→Int→(List mosaic_Radar)→Int→(List (ByteArray×mosaic_Radar))→(List (mosaic_Key×(List (List api_Span))))→(List (mosaic_where×(List api_Span)))→Int→Option Bool)) (a6:Int) (a7:Int) (a8:Int) (a9:Int) (aA:Int) (aB:Int) (aC:Int) (aD:Int) (aE:Int) (a2:(List mosaic_Radar)) (aF:Int) (a3:(List (ByteArray×mosaic_Radar))) (a4:(List (mosaic_Key×(List (List api_Span))))) (a5:(List (mosaic_where×(List api_Span)))) (a1:Int):Option Bool :=
  bif (decide (a1<((p1.length:Nat):Int))) then ((Be p1 a1).bind fun aH =>
  (Et F aH y8).bind fun aJ =>
  (C2 F (mosaic_Node.mk (mosaic_Spec.mk (api_Grid.mk a6 a7 aA aB aC) (api_Span.mk aD aE) a2 aF) a3 a8 a4 a9 a5) aJ).bind fun a0 =>
  (ck (a1+1)).bind fun aI =>
  aG a0.2.2.spec.Grid.X a0.2.2.spec.Grid.Y a0.2.2.horizon a0.2.2.count a0.2.2.spec.Grid.Size a0.2.2.spec.Grid.Wide a0.2.2.spec.Grid.High a0.2.2.spec.Earth.Lo a0.2.2.spec.Earth.Hi a0.2.2.spec.Radars a0.2.2.spec.Age a0.2.2.radars a0.2.2.kept a0.2.2.looks aI) else (Ct F p2 y8 a6 a7 a8 a9 aA aB aC aD aE a2 aF a3 a4 a5)
def Bx (F:Nat) (p1:(List law11_Post)) (p2:Int) (y8:mosaic_Spec):Nat→Int→Int→Int→Int→Int→Int→Int→Int→Int→(List mosaic_Radar)→Int→(List (ByteArray×mosaic_Radar))→(List (mosaic_Key×(List (List api_Span))))→(List (mosaic_where×(List api_Span)))→Int→Option Bool
  | 0,_,_,_,_,_,_,_,_,_,_,_,_,_,_,_=>none
  | n+1,a4,a5,a6,a7,a8,a9,aA,aB,aC,a0,aD,a1,a2,a3,aE=>Dc F p1 p2 y8 (Bx F p1 p2 y8 n) a4 a5 a6 a7 a8 a9 aA aB aC a0 aD a1 a2 a3 aE
def F2 (p2:Int):Option Bool :=
  (ck p2).bind fun a0 =>
  (Dh a0 4000).bind fun a1 =>
  none
def F1 (p1:(List law11_Post)) (p2:Int) (a0:(Option Bool)):Option Bool :=
  bif (decide (0<((p1.length:Nat):Int))) then (none) else (F2 p2)
def Dd (p1:(List law11_Post)) (p2:Int):Nat→Option Bool
  | 0=>none
  | n+1=>F1 p1 p2 (Dd p1 p2 n)
def Dn (F:Nat) (p0:law11_Net) (p1:(List law11_Post)) (p2:Int):Option Bool :=
  bif (decide (((p1.length:Nat):Int)>12)) then ((H9 F).bind fun y6 =>
  some y6) else ((Ea F (law11_Net.mk p0.Wide p0.High ((law11_Station.mk p0.Stations.1.X p0.Stations.1.Y p0.Stations.1.Z p0.Stations.1.Rose p0.Stations.1.Gates p0.Stations.1.Width p0.Stations.1.Lo p0.Stations.1.Hi),(law11_Station.mk p0.Stations.2.1.X p0.Stations.2.1.Y p0.Stations.2.1.Z p0.Stations.2.1.Rose p0.Stations.2.1.Gates p0.Stations.2.1.Width p0.Stations.2.1.Lo p0.Stations.2.1.Hi),(law11_Station.mk p0.Stations.2.2.X p0.Stations.2.2.Y p0.Stations.2.2.Z p0.Stations.2.2.Rose p0.Stations.2.2.Gates p0.Stations.2.2.Width p0.Stations.2.2.Lo p0.Stations.2.2.Hi)) p0.Count p0.Age)).bind fun y8 =>
  (Gv F y8).bind fun a2 =>
  exc a2 (fun a1=>bif (a1 != 0) then (some false) else (Dd p1 p2 F)) (fun a0=>bif (a0.2 != 0) then (some false) else (Bx F p1 p2 y8 F a0.1.spec.Grid.X a0.1.spec.Grid.Y a0.1.horizon a0.1.count a0.1.spec.Grid.Size a0.1.spec.Grid.Wide a0.1.spec.Grid.High a0.1.spec.Earth.Lo a0.1.spec.Earth.Hi a0.1.spec.Radars a0.1.spec.Age a0.1.radars a0.1.kept a0.1.looks 0)))
end Go.Proofs.YtkbjbnkkfifbmaaGreat
