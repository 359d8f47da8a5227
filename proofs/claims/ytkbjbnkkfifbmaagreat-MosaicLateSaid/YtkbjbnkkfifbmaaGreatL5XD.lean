import Derived.Test.YtkbjbnkkfifbmaaGreatL5EB
namespace Go.Proofs.YtkbjbnkkfifbmaaGreat
open Go Go.RowKit Go.Eng
set_option maxRecDepth 10000
set_option maxHeartbeats 4000000
set_option linter.unusedVariables false
set_option linter.unusedSimpArgs false
structure api_Grid where
  X:Int
  Y:Int
  Size:Int
  Wide:Int
  High:Int
  deriving Inhabited,DecidableEq
def api_Grid.cells (x:api_Grid):List Value:=[.int .i64 x.X,.int .i64 x.Y,.int .i64 x.Size,.int .i64 x.Wide,.int .i64 x.High]
structure api_Span where
  Lo:Int
  Hi:Int
  deriving Inhabited,DecidableEq
def api_Span.cells (x:api_Span):List Value:=[.int .i64 x.Lo,.int .i64 x.Hi]
theorem api_Span.cells_len (x:api_Span):(api_Span.cells x).length=2:=rfl
structure api_Site where
  Name:ByteArray
  X:Int
  Y:Int
  Z:Int
  Rose:Int
  Gates:Int
  Step:Int
  Width:Int
  deriving Inhabited,DecidableEq
def api_Site.cells (x:api_Site):List Value:=[.string x.Name,.int .i64 x.X,.int .i64 x.Y,.int .i64 x.Z,.int .i64 x.Rose,.int .i64 x.Gates,.int .i64 x.Step,.int .i64 x.Width]
structure mosaic_Radar where
  Site:api_Site
  Offset:api_Span
  deriving Inhabited,DecidableEq
def mosaic_Radar.cells (x:mosaic_Radar):List Value:=[.string x.Site.Name,.int .i64 x.Site.X,.int .i64 x.Site.Y,.int .i64 x.Site.Z,.int .i64 x.Site.Rose,.int .i64 x.Site.Gates,.int .i64 x.Site.Step,.int .i64 x.Site.Width,.int .i64 x.Offset.Lo,.int .i64 x.Offset.Hi]
theorem mosaic_Radar.cells_len (x:mosaic_Radar):(mosaic_Radar.cells x).length=10:=rfl
structure mosaic_Spec where
  Grid:api_Grid
  Earth:api_Span
  Radars:(List mosaic_Radar)
  Age:Int
  deriving Inhabited,DecidableEq
structure mosaic_Key where
  Name:ByteArray
  Tilt:Int
  Time:Int
  deriving Inhabited,DecidableEq
def mosaic_Key.cells (x:mosaic_Key):List Value:=[.string x.Name,.int .i64 x.Tilt,.int .i64 x.Time]
theorem mosaic_Key.cells_len (x:mosaic_Key):(mosaic_Key.cells x).length=3:=rfl
structure mosaic_where where
  name:ByteArray
  tilt:Int
  deriving Inhabited,DecidableEq
def mosaic_where.cells (x:mosaic_where):List Value:=[.string x.name,.int .i64 x.tilt]
structure mosaic_Node where
  spec:mosaic_Spec
  radars:(List (ByteArray×mosaic_Radar))
  horizon:Int
  kept:(List (mosaic_Key×(List (List api_Span))))
  count:Int
  looks:(List (mosaic_where×(List api_Span)))
  deriving Inhabited,DecidableEq
structure mosaic_Message where
  Key:mosaic_Key
  Vals:(List api_Span)
  deriving Inhabited,DecidableEq
structure beam_slant where
  c:Int
  s:Int
  d:Int
  deriving Inhabited,DecidableEq
def beam_slant.cells (x:beam_slant):List Value:=[.int .i64 x.c,.int .i64 x.s,.int .i64 x.d]
structure beam_vector where
  x:Int
  y:Int
  length:Int
  deriving Inhabited,DecidableEq
def beam_vector.cells (x:beam_vector):List Value:=[.int .i64 x.x,.int .i64 x.y,.int .i64 x.length]
structure mosaic_used where
  Key:mosaic_Key
  vals:(List api_Span)
  bands:(List api_Span)
  deriving Inhabited,DecidableEq
structure mosaic_Pixel where
  Value_:api_Span
  Key:mosaic_Key
  deriving Inhabited,DecidableEq
def mosaic_Pixel.cells (x:mosaic_Pixel):List Value:=[.int .i64 x.Value_.Lo,.int .i64 x.Value_.Hi,.string x.Key.Name,.int .i64 x.Key.Tilt,.int .i64 x.Key.Time]
theorem mosaic_Pixel.cells_len (x:mosaic_Pixel):(mosaic_Pixel.cells x).length=5:=rfl
structure law11_Station where
  X:Int
  Y:Int
  Z:Int
  Rose:Int
  Gates:Int
  Width:Int
  Lo:Int
  Hi:Int
  deriving Inhabited,DecidableEq
def law11_Station.cells (x:law11_Station):List Value:=[.int .i16 x.X,.int .i16 x.Y,.int .u16 x.Z,.int .u8 x.Rose,.int .u8 x.Gates,.int .u8 x.Width,.int .u16 x.Lo,.int .u16 x.Hi]
structure law11_Net where
  Wide:Int
  High:Int
  Stations:(law11_Station×law11_Station×law11_Station)
  Count:Int
  Age:Int
  deriving Inhabited,DecidableEq
def law11_Net.cells (x:law11_Net):List Value:=[.int .u8 x.Wide,.int .u8 x.High,.int .i16 x.Stations.1.X,.int .i16 x.Stations.1.Y,.int .u16 x.Stations.1.Z,.int .u8 x.Stations.1.Rose,.int .u8 x.Stations.1.Gates,.int .u8 x.Stations.1.Width,.int .u16 x.Stations.1.Lo,.int .u16 x.Stations.1.Hi,.int .i16 x.Stations.2.1.X,.int .i16 x.Stations.2.1.Y,.int .u16 x.Stations.2.1.Z,.int .u8 x.Stations.2.1.Rose,.int .u8 x.Stations.2.1.Gates,.int .u8 x.Stations.2.1.Width,.int .u16 x.Stations.2.1.Lo,.int .u16 x.Stations.2.1.Hi,.int .i16 x.Stations.2.2.X,.int .i16 x.Stations.2.2.Y,.int .u16 x.Stations.2.2.Z,.int .u8 x.Stations.2.2.Rose,.int .u8 x.Stations.2.2.Gates,.int .u8 x.Stations.2.2.Width,.int .u16 x.Stations.2.2.Lo,.int .u16 x.Stations.2.2.Hi,.int .u8 x.Count,.int .u16 x.Age]
structure law11_Post where
  Radar:Int
  Tilt:Int
  Time:Int
  Vals:(List Int)
  Wide:Int
  deriving Inhabited,DecidableEq
abbrev api_Grid.ar (x:api_Grid):Array Value:=#[.int .i64 x.X,.int .i64 x.Y,.int .i64 x.Size,.int .i64 x.Wide,.int .i64 x.High]
abbrev api_Grid.ag (x:api_Grid):Value:=.agg #[.int .i64 x.X,.int .i64 x.Y,.int .i64 x.Size,.int .i64 x.Wide,.int .i64 x.High]
abbrev api_Site.ar (x:api_Site):Array Value:=#[.string x.Name,.int .i64 x.X,.int .i64 x.Y,.int .i64 x.Z,.int .i64 x.Rose,.int .i64 x.Gates,.int .i64 x.Step,.int .i64 x.Width]
abbrev api_Site.ag (x:api_Site):Value:=.agg #[.string x.Name,.int .i64 x.X,.int .i64 x.Y,.int .i64 x.Z,.int .i64 x.Rose,.int .i64 x.Gates,.int .i64 x.Step,.int .i64 x.Width]
abbrev mosaic_Radar.ar (x:mosaic_Radar):Array Value:=#[.string x.Site.Name,.int .i64 x.Site.X,.int .i64 x.Site.Y,.int .i64 x.Site.Z,.int .i64 x.Site.Rose,.int .i64 x.Site.Gates,.int .i64 x.Site.Step,.int .i64 x.Site.Width,.int .i64 x.Offset.Lo,.int .i64 x.Offset.Hi]
abbrev mosaic_Radar.ag (x:mosaic_Radar):Value:=.agg #[.string x.Site.Name,.int .i64 x.Site.X,.int .i64 x.Site.Y,.int .i64 x.Site.Z,.int .i64 x.Site.Rose,.int .i64 x.Site.Gates,.int .i64 x.Site.Step,.int .i64 x.Site.Width,.int .i64 x.Offset.Lo,.int .i64 x.Offset.Hi]
abbrev mosaic_Key.ar (x:mosaic_Key):Array Value:=#[.string x.Name,.int .i64 x.Tilt,.int .i64 x.Time]
abbrev mosaic_Key.ag (x:mosaic_Key):Value:=.agg #[.string x.Name,.int .i64 x.Tilt,.int .i64 x.Time]
abbrev beam_slant.ar (x:beam_slant):Array Value:=#[.int .i64 x.c,.int .i64 x.s,.int .i64 x.d]
abbrev beam_slant.ag (x:beam_slant):Value:=.agg #[.int .i64 x.c,.int .i64 x.s,.int .i64 x.d]
abbrev beam_vector.ar (x:beam_vector):Array Value:=#[.int .i64 x.x,.int .i64 x.y,.int .i64 x.length]
abbrev beam_vector.ag (x:beam_vector):Value:=.agg #[.int .i64 x.x,.int .i64 x.y,.int .i64 x.length]
abbrev mosaic_Pixel.ar (x:mosaic_Pixel):Array Value:=#[.int .i64 x.Value_.Lo,.int .i64 x.Value_.Hi,.string x.Key.Name,.int .i64 x.Key.Tilt,.int .i64 x.Key.Time]
abbrev mosaic_Pixel.ag (x:mosaic_Pixel):Value:=.agg #[.int .i64 x.Value_.Lo,.int .i64 x.Value_.Hi,.string x.Key.Name,.int .i64 x.Key.Tilt,.int .i64 x.Key.Time]
abbrev law11_Station.ar (x:law11_Station):Array Value:=#[.int .i16 x.X,.int .i16 x.Y,.int .u16 x.Z,.int .u8 x.Rose,.int .u8 x.Gates,.int .u8 x.Width,.int .u16 x.Lo,.int .u16 x.Hi]
abbrev law11_Station.ag (x:law11_Station):Value:=.agg #[.int .i16 x.X,.int .i16 x.Y,.int .u16 x.Z,.int .u8 x.Rose,.int .u8 x.Gates,.int .u8 x.Width,.int .u16 x.Lo,.int .u16 x.Hi]
abbrev law11_Net.ar (x:law11_Net):Array Value:=#[.int .u8 x.Wide,.int .u8 x.High,.int .i16 x.Stations.1.X,.int .i16 x.Stations.1.Y,.int .u16 x.Stations.1.Z,.int .u8 x.Stations.1.Rose,.int .u8 x.Stations.1.Gates,.int .u8 x.Stations.1.Width,.int .u16 x.Stations.1.Lo,.int .u16 x.Stations.1.Hi,.int .i16 x.Stations.2.1.X,.int .i16 x.Stations.2.1.Y,.int .u16 x.Stations.2.1.Z,.int .u8 x.Stations.2.1.Rose,.int .u8 x.Stations.2.1.Gates,.int .u8 x.Stations.2.1.Width,.int .u16 x.Stations.2.1.Lo,.int .u16 x.Stations.2.1.Hi,.int .i16 x.Stations.2.2.X,.int .i16 x.Stations.2.2.Y,.int .u16 x.Stations.2.2.Z,.int .u8 x.Stations.2.2.Rose,.int .u8 x.Stations.2.2.Gates,.int .u8 x.Stations.2.2.Width,.int .u16 x.Stations.2.2.Lo,.int .u16 x.Stations.2.2.Hi,.int .u8 x.Count,.int .u16 x.Age]
abbrev law11_Net.ag (x:law11_Net):Value:=.agg #[.int .u8 x.Wide,.int .u8 x.High,.int .i16 x.Stations.1.X,.int .i16 x.Stations.1.Y,.int .u16 x.Stations.1.Z,.int .u8 x.Stations.1.Rose,.int .u8 x.Stations.1.Gates,.int .u8 x.Stations.1.Width,.int .u16 x.Stations.1.Lo,.int .u16 x.Stations.1.Hi,.int .i16 x.Stations.2.1.X,.int .i16 x.Stations.2.1.Y,.int .u16 x.Stations.2.1.Z,.int .u8 x.Stations.2.1.Rose,.int .u8 x.Stations.2.1.Gates,.int .u8 x.Stations.2.1.Width,.int .u16 x.Stations.2.1.Lo,.int .u16 x.Stations.2.1.Hi,.int .i16 x.Stations.2.2.X,.int .i16 x.Stations.2.2.Y,.int .u16 x.Stations.2.2.Z,.int .u8 x.Stations.2.2.Rose,.int .u8 x.Stations.2.2.Gates,.int .u8 x.Stations.2.2.Width,.int .u16 x.Stations.2.2.Lo,.int .u16 x.Stations.2.2.Hi,.int .u8 x.Count,.int .u16 x.Age]
abbrev mosaic_Node.ax (x:mosaic_Node) (adg1_:Option Addr) (capg2_:Nat) (mg3_:Nat) (mg4_:Nat) (mg5_:Nat):Array Value:=#[.int .i64 x.spec.Grid.X,.int .i64 x.spec.Grid.Y,.int .i64 x.spec.Grid.Size,.int .i64 x.spec.Grid.Wide,.int .i64 x.spec.Grid.High,.int .i64 x.spec.Earth.Lo,.int .i64 x.spec.Earth.Hi,.slice adg1_ x.spec.Radars.length capg2_,.int .i64 x.spec.Age,.map (some mg3_),.int .i64 x.horizon,.map (some mg4_),.int .i64 x.count,.map (some mg5_)]
abbrev mosaic_Spec.ax (x:mosaic_Spec) (adg1_:Option Addr) (capg2_:Nat):Array Value:=#[.int .i64 x.Grid.X,.int .i64 x.Grid.Y,.int .i64 x.Grid.Size,.int .i64 x.Grid.Wide,.int .i64 x.Grid.High,.int .i64 x.Earth.Lo,.int .i64 x.Earth.Hi,.slice adg1_ x.Radars.length capg2_,.int .i64 x.Age]
abbrev law11_Post.ax (x:law11_Post) (adg1_:Option Addr) (capg2_:Nat):Array Value:=#[.int .u8 x.Radar,.int .u8 x.Tilt,.int .u16 x.Time,.slice adg1_ x.Vals.length capg2_,.int .u8 x.Wide]
abbrev api_Grid.e0 (x:api_Grid):Bool:=(((x.X:Int)==0)&&(((x.Y:Int)==0)&&(((x.Size:Int)==0)&&(((x.Wide:Int)==0)&&(((x.High:Int)==0)&&true)))))
abbrev api_Site.e0 (x:api_Site):Bool:=((x.Name==ByteArray.empty)&&(((x.X:Int)==0)&&(((x.Y:Int)==0)&&(((x.Z:Int)==0)&&(((x.Rose:Int)==0)&&(((x.Gates:Int)==0)&&(((x.Step:Int)==0)&&(((x.Width:Int)==0)&&true))))))))
abbrev mosaic_Radar.e0 (x:mosaic_Radar):Bool:=((x.Site.Name==ByteArray.empty)&&(((x.Site.X:Int)==0)&&(((x.Site.Y:Int)==0)&&(((x.Site.Z:Int)==0)&&(((x.Site.Rose:Int)==0)&&(((x.Site.Gates:Int)==0)&&(((x.Site.Step:Int)==0)&&(((x.Site.Width:Int)==0)&&(((x.Offset.Lo:Int)==0)&&(((x.Offset.Hi:Int)==0)&&true))))))))))
abbrev mosaic_Key.e0 (x:mosaic_Key):Bool:=((x.Name==ByteArray.empty)&&(((x.Tilt:Int)==0)&&(((x.Time:Int)==0)&&true)))
abbrev beam_slant.e0 (x:beam_slant):Bool:=(((x.c:Int)==0)&&(((x.s:Int)==0)&&(((x.d:Int)==0)&&true)))
abbrev beam_vector.e0 (x:beam_vector):Bool:=(((x.x:Int)==0)&&(((x.y:Int)==0)&&(((x.length:Int)==0)&&true)))
abbrev mosaic_Pixel.e0 (x:mosaic_Pixel):Bool:=(((x.Value_.Lo:Int)==0)&&(((x.Value_.Hi:Int)==0)&&((x.Key.Name==ByteArray.empty)&&(((x.Key.Tilt:Int)==0)&&(((x.Key.Time:Int)==0)&&true)))))
abbrev law11_Station.e0 (x:law11_Station):Bool:=(((x.X:Int)==0)&&(((x.Y:Int)==0)&&(((x.Z:Int)==0)&&(((x.Rose:Int)==0)&&(((x.Gates:Int)==0)&&(((x.Width:Int)==0)&&(((x.Lo:Int)==0)&&(((x.Hi:Int)==0)&&true))))))))
abbrev law11_Net.e0 (x:law11_Net):Bool:=(((x.Wide:Int)==0)&&(((x.High:Int)==0)&&(((x.Stations.1.X:Int)==0)&&(((x.Stations.1.Y:Int)==0)&&(((x.Stations.1.Z:Int)==0)&&(((x.Stations.1.Rose:Int)==0)&&(((x.Stations.1.Gates:Int)==0)&&(((x.Stations.1.Width:Int)==0)&&(((x.Stations.1.Lo:Int)==0)&&(((x.Stations.1.Hi:Int)==0)&&(((x.Stations.2.1.X:Int)==0)&&(((x.Stations.2.1.Y:Int)==0)&&(((x.Stations.2.1.Z:Int)==0)&&(((x.Stations.2.1.Rose:Int)==0)&&(((x.Stations.2.1.Gates:Int)==0)&&(((x.Stations.2.1.Width:Int)==0)&&(((x.Stations.2.1.Lo:Int)==0)&&(((x.Stations.2.1.Hi:Int)==0)&&(((x.Stations.2.2.X:Int)==0)&&(((x.Stations.2.2.Y:Int)==0)&&(((x.Stations.2.2.Z:Int)==0)&&(((x.Stations.2.2.Rose:Int)==0)&&(((x.Stations.2.2.Gates:Int)==0)&&(((x.Stations.2.2.Width:Int)==0)&&(((x.Stations.2.2.Lo:Int)==0)&&(((x.Stations.2.2.Hi:Int)==0)&&(((x.Count:Int)==0)&&(((x.Age:Int)==0)&&true))))))))))))))))))))))))))))
abbrev Wz:Array Value:=#[.string ByteArray.empty,.int .i64 0,.int .i64 0,.int .i64 0,.int .i64 0,.int .i64 0,.int .i64 0,.int .i64 0,.int .i64 0,.int .i64 0]
abbrev z37:Array Value:=#[.int .i64 0,.int .i64 0,.int .i64 0,.int .i64 0,.int .i64 0,.int .i64 0,.int .i64 0,.slice none 0 0,.int .i64 0]
abbrev Tr:Array Value:=#[.string ByteArray.empty,.int .i64 0,.int .i64 0,.int .i64 0,.int .i64 0,.int .i64 0,.int .i64 0,.int .i64 0]
abbrev z25:Array Value:=#[.int .i16 0,.int .i16 0,.int .u16 0,.int .u8 0,.int .u8 0,.int .u8 0,.int .u16 0,.int .u16 0]
abbrev z66:Array Value:=#[.int .i64 0,.int .i64 0,.string ByteArray.empty,.int .i64 0,.int .i64 0]
abbrev z49:Array Value:=#[.string ByteArray.empty,.int .i64 0,.int .i64 0,.slice none 0 0]
def Rp47:Rel (List api_Span):=fun μ cs x=>∃(ad1:Option Addr) (cap2:Nat),cs=[.slice ad1 x.length cap2]∧ArrM μ 2 api_Span.cells ad1 cap2 x
theorem Rp47.mono:Rel.Mono Rp47:=by
  intro μ ν cs x hle h;obtain ⟨ad1,cap2,rfl,f0⟩:=h;exact ⟨ad1,cap2,rfl,f0.mono hle⟩
theorem Rp47.one:Rel.One 1 Rp47:=by
  intro μ cs x h;obtain ⟨ad1,cap2,rfl,f0⟩:=h
  all_goals rfl
def Rp155:Rel mosaic_used:=fun μ cs x=>∃(ad1:Option Addr) (cap2:Nat) (ad3:Option Addr) (cap4:Nat),cs=[.string x.Key.Name,.int .i64 x.Key.Tilt,.int .i64 x.Key.Time,.slice ad1 x.vals.length cap2,.slice ad3 x.bands.length cap4]∧ArrM μ 2 api_Span.cells ad1 cap2 x.vals∧ArrM μ 2 api_Span.cells ad3 cap4 x.bands
theorem Rp155.mono:Rel.Mono Rp155:=by
  intro μ ν cs x hle h;obtain ⟨ad1,cap2,ad3,cap4,rfl,f0,f1⟩:=h;exact ⟨ad1,cap2,ad3,cap4,rfl,f0.mono hle,f1.mono hle⟩
theorem Rp155.one:Rel.One 5 Rp155:=by
  intro μ cs x h;obtain ⟨ad1,cap2,ad3,cap4,rfl,f0,f1⟩:=h
  all_goals rfl
def Rp49:Rel mosaic_Message:=fun μ cs x=>∃(ad1:Option Addr) (cap2:Nat),cs=[.string x.Key.Name,.int .i64 x.Key.Tilt,.int .i64 x.Key.Time,.slice ad1 x.Vals.length cap2]∧ArrM μ 2 api_Span.cells ad1 cap2 x.Vals
theorem Rp49.mono:Rel.Mono Rp49:=by
  intro μ ν cs x hle h;obtain ⟨ad1,cap2,rfl,f0⟩:=h;exact ⟨ad1,cap2,rfl,f0.mono hle⟩
theorem Rp49.one:Rel.One 4 Rp49:=by
  intro μ cs x h;obtain ⟨ad1,cap2,rfl,f0⟩:=h
  all_goals rfl
def Rp52:Rel law11_Post:=fun μ cs x=>∃(ad1:Option Addr) (cap2:Nat),cs=[.int .u8 x.Radar,.int .u8 x.Tilt,.int .u16 x.Time,.slice ad1 x.Vals.length cap2,.int .u8 x.Wide]∧ArrM μ 1 (fK .u16) ad1 cap2 x.Vals
theorem Rp52.mono:Rel.Mono Rp52:=by
  intro μ ν cs x hle h;obtain ⟨ad1,cap2,rfl,f0⟩:=h;exact ⟨ad1,cap2,rfl,f0.mono hle⟩
def Ff (p0:ByteArray):Bool:=A0n p0
def or3 (x y z:Int):Int:=if x≠0 then x else if y≠0 then y else z
def Ef (x y:mosaic_Key):Int:=or3 (if x.Time<y.Time then -1 else if y.Time<x.Time then 1 else 0) (if N4 x.Name y.Name then -1 else if Ml x.Name y.Name then 1 else 0) (if x.Tilt<y.Tilt then -1 else if y.Tilt<x.Tilt then 1 else 0)
def D8 (l:List mosaic_Key):List mosaic_Key:=Qh Ef l
def Dk (F:Nat) (p0:mosaic_Node):Option (List mosaic_Key):=if p0.kept.length≤1000000 then some (D8 (p0.kept.map (·.1))) else none
def Ga (F:Nat) (p0:List (List api_Span)) (p1:Int) (p2:List (List api_Span)):Option (List (List api_Span)):=if 0≤p1∧p1≤(p0.length:Int)∧p2.length=1∧p0.length≤1000000 then some (p0.take p1.toNat++p2++p0.drop p1.toNat) else none
def Kb (time:Int) (p:mosaic_Key×List (List api_Span)):Bool:=decide (p.1.Time<time)
def Ji (time:Int) (l:List (mosaic_Key×List (List api_Span))):Nat:=((l.filter (Kb time)).map fun p=>p.2.length).sum
def ndK:List mosaic_Key→Bool
  | []=>true
  | k::l=>!l.contains k&&ndK l
def H0 (F:Nat) (p0:mosaic_Node) (p1:Int):Option (Int×mosaic_Node):=if ndK (p0.kept.map (·.1))=true∧-1000000000000≤p0.count∧p0.count≤1000000000000∧Ji p1 p0.kept≤1000000000000 then some ((Ji p1 p0.kept:Int),{ p0 with horizon:=p1,kept:=p0.kept.filter (fun p=>!Kb p1 p),count:=p0.count-Ji p1 p0.kept }) else none
def Ng (F:Nat) (p0:mosaic_Node):Option mosaic_Node:=some p0
def A6 (p0:Int) (p1:Int) (p2:Int):Bool :=
  bif (decide (p1≤p0)) then (decide (p0≤p2)) else false
def Bw (c2:Bool):Int :=
  bif c2 then (3) else (0)
def B5 (p0:api_Grid):Int :=
  bif (!(A6 p0.X (-1048576) 1048576)) then (Bw (!(A6 p0.X (-1048576) 1048576))) else (bif (!(A6 p0.Y (-1048576) 1048576)) then (Bw (!(A6 p0.Y (-1048576) 1048576))) else (bif (!(A6 p0.Size 1 10000)) then (Bw (!(A6 p0.Size 1 10000))) else (bif (!(A6 p0.Wide 1 64)) then (Bw (!(A6 p0.Wide 1 64))) else (Bw (!(A6 p0.High 1 64))))))
def Bz (p0:api_Span) (p1:Int) (p2:Int):Bool :=
  bif (bif (decide (p1≤p0.Lo)) then (decide (p0.Lo≤p0.Hi)) else false) then (decide (p0.Hi≤p2)) else false
def B8 (p0:Int) (p1:Int) (p2:Int):Bool :=
  bif (decide (p1≤p0)) then (decide (p0≤p2)) else false
def Jd (F:Nat) (p0:ByteArray):Option Bool :=
  (gd (((bif (!(sEq p0 (⟨#[]⟩:ByteArray))) then (decide (((p0.size:Nat):Int)≤12)) else false)==true&&true)) (Xd p0 (0:Int)) default).bind fun u1 =>
  (gd (((bif (bif (!(sEq p0 (⟨#[]⟩:ByteArray))) then (decide (((p0.size:Nat):Int)≤12)) else false) then (decide (u1≥97)) else false)==true&&true)) (Xd p0 (0:Int)) default).bind fun u2 =>
  some (bif (bif (bif (bif (!(sEq p0 (⟨#[]⟩:ByteArray))) then (decide (((p0.size:Nat):Int)≤12)) else false) then (decide (u1≥97)) else false) then (decide (u2≤122)) else false) then (!(Ff p0)) else false)
def Cb (c4:Bool):Option Int :=
  bif c4 then (some 3) else (some 0)
def Ct (p0:api_Site) (c3:Bool):Option Int :=
  bif c3 then (some 3) else (bif (!(A6 p0.Rose 1 90)) then (Cb (!(A6 p0.Rose 1 90))) else (bif (!(A6 p0.Gates 1 200)) then (Cb (!(A6 p0.Gates 1 200))) else (bif (!(A6 p0.Step 50 2000)) then (Cb (!(A6 p0.Step 50 2000))) else (Cb (!(A6 p0.Width 0 8))))))
def beam_CheckSite (F:Nat) (p0:api_Site):Option Int :=
  (Jd F p0.Name).bind fun y2 =>
  bif (!y2) then (some 10) else (bif (!(A6 p0.X (-1048576) 1048576)) then (Ct p0 (!(A6 p0.X (-1048576) 1048576))) else (bif (!(A6 p0.Y (-1048576) 1048576)) then (Ct p0 (!(A6 p0.Y (-1048576) 1048576))) else (Ct p0 (!(A6 p0.Z 0 20000)))))
def H5 (a0:(List (ByteArray×Bool))):Option Int :=
  some 0
def Fs (F:Nat) (p0:mosaic_Spec) (k2:((List (ByteArray×Bool))→Int→Option Int)) (a1:(List (ByteArray×Bool))) (a2:Int):Option Int :=
  bif (decide (a2<((p0.Radars.length:Nat):Int))) then ((Bn p0.Radars a2).bind fun a0 =>
  (beam_CheckSite F a0.Site).bind fun a3 =>
  bif (a3 != 0) then (some a3) else (bif ((lkM a1 a0.Site.Name).getD false) then (some 5) else (bif (!(Bz a0.Offset (-3600) 3600)) then (some 3) else ((ck (a2+1)).bind fun a4 =>
  k2 (upM a1 a0.Site.Name true) a4)))) else (H5 a1)
def De (F:Nat) (p0:mosaic_Spec):Nat→(List (ByteArray×Bool))→Int→Option Int
  | 0,_,_=>none
  | n+1,a0,a1=>Fs F p0 (De F p0 n) a0 a1
def G5 (F:Nat) (p0:mosaic_Spec):Option Int :=
  bif ((B5 p0.Grid) != 0) then (some (B5 p0.Grid)) else (bif (bif (!(Bz p0.Earth 1000000 100000000)) then true else (!(B8 p0.Age 1 86400))) then (some 3) else (bif (((p0.Radars.length:Nat):Int)==0) then (some 18) else (bif (decide (((p0.Radars.length:Nat):Int)>32)) then (some 9) else (De F p0 F ([]:List (ByteArray×Bool)) 0))))
def Aw (F:Nat) (p0:(List mosaic_Radar)):Option (List mosaic_Radar) :=
  (apd 88 ([]:List mosaic_Radar) p0).bind fun l5 =>
  some l5
def Ja (p0:mosaic_Spec) (y7:(List mosaic_Radar)) (a0:(List (ByteArray×mosaic_Radar))):Option (Except Int (mosaic_Node×Int)) :=
  some (.ok ((mosaic_Node.mk (mosaic_Spec.mk p0.Grid p0.Earth y7 p0.Age) a0 0 ([]:List (mosaic_Key×(List (List api_Span)))) 0 ([]:List (mosaic_where×(List api_Span)))),0))
def Gx (p0:mosaic_Spec) (y7:(List mosaic_Radar)) (k2:((List (ByteArray×mosaic_Radar))→Int→Option (Except Int (mosaic_Node×Int)))) (a1:(List (ByteArray×mosaic_Radar))) (a0:Int):Option (Except Int (mosaic_Node×Int)) :=
  bif (decide (a0<((y7.length:Nat):Int))) then ((Bn y7 a0).bind fun a2 =>
  (ck (a0+1)).bind fun a3 =>
  k2 (upM a1 a2.Site.Name a2) a3) else (Ja p0 y7 a1)
def Ez (p0:mosaic_Spec) (y7:(List mosaic_Radar)):Nat→(List (ByteArray×mosaic_Radar))→Int→Option (Except Int (mosaic_Node×Int))
  | 0,_,_=>none
  | n+1,a0,a1=>Gx p0 y7 (Ez p0 y7 n) a0 a1
def Gm (F:Nat) (p0:mosaic_Spec):Option (Except Int (mosaic_Node×Int)) :=
  (G5 F p0).bind fun y5 =>
  bif (y5 != 0) then (some (.error y5)) else ((Aw F p0.Radars).bind fun y7 =>
  Ez p0 y7 F ([]:List (ByteArray×mosaic_Radar)) 0)
def Az (F:Nat) (p0:mosaic_Node):Option Bool :=
  some false
def F2:Option Int :=
  some 0
def Db (p1:mosaic_Message) (k2:(Int→Option Int)) (a0:Int):Option Int :=
  bif (decide (a0<((p1.Vals.length:Nat):Int))) then ((Bn p1.Vals a0).bind fun a1 =>
  bif (!(Bz a1 0 1000000)) then (some 3) else ((ck (a0+1)).bind fun a2 =>
  k2 a2)) else (F2)
def Bx (p1:mosaic_Message):Nat→Int→Option Int
  | 0,_=>none
  | n+1,a0=>Db p1 (Bx p1 n) a0
def D6 (F:Nat) (p0:mosaic_Node) (p1:mosaic_Message):Option Int :=
  bif (!((lkM p0.radars p1.Key.Name).isSome)) then (some 4) else (bif (bif (!(B8 p1.Key.Tilt 0 256)) then true else (!(B8 p1.Key.Time 0 4294967296))) then (some 3) else ((ck (p0.spec.Grid.Wide*p0.spec.Grid.High)).bind fun a0 =>
  bif (((p1.Vals.length:Nat):Int) != a0) then (some 11) else (Bx p1 F 0)))
def J8:Option Int :=
  some 0
def Gt (p0:(List Int)) (k2:(Int→Option Int)) (a0:Int):Option Int :=
  bif (decide (a0<((p0.length:Nat):Int))) then ((Bn p0 a0).bind fun a1 =>
  bif (a1 != 0) then (some a1) else ((ck (a0+1)).bind fun a2 =>
  k2 a2)) else (J8)
def Ev (p0:(List Int)):Nat→Int→Option Int
  | 0,_=>none
  | n+1,a0=>Gt p0 (Ev p0 n) a0
def Hk (F:Nat) (p0:(List Int)):Option Int :=
  Ev p0 F 0
def By (p0:Int):Bool :=
  p0 != p0
def Ab (p0:Int) (p1:Int):Int :=
  bif (By p0) then (bif (By p1) then (0) else (-1)) else (bif (By p1) then (1) else (bif (decide (p0<p1)) then (-1) else (bif (decide (p0>p1)) then (1) else (0))))
def E9 (F:Nat) (p0:api_Span) (p1:api_Span):Option Int :=
  (Hk F ([(Ab p0.Lo p1.Lo),(Ab p0.Hi p1.Hi)])).bind fun y4 =>
  some y4
def Aj (p0:(List api_Span)) (p1:(List api_Span)):Option Int :=
  bif (decide (((p0.length:Nat):Int)<((p1.length:Nat):Int))) then (some (-1)) else (some 0)
def Ai (F:Nat) (p0:(List api_Span)) (p1:(List api_Span)) (k2:(Int→Option Int)) (a0:Int):Option Int :=
  bif (decide (a0<((p0.length:Nat):Int))) then ((Bn p0 a0).bind fun a2 =>
  bif (decide (a0≥((p1.length:Nat):Int))) then (some 1) else ((Bn p1 a0).bind fun a3 =>
  (E9 F a2 a3).bind fun a1 =>
  bif (a1 != 0) then (some a1) else ((ck (a0+1)).bind fun a4 =>
  k2 a4))) else (Aj p0 p1)
def Aa (F:Nat) (p0:(List api_Span)) (p1:(List api_Span)):Nat→Int→Option Int
  | 0,_=>none
  | n+1,a0=>Ai F p0 p1 (Aa F p0 p1 n) a0
def Al (F:Nat) (p0:(List api_Span)) (p1:(List api_Span)):Option Int :=
  Aa F p0 p1 F 0
def E8 (F:Nat) (p0:(List api_Span)) (p1:(List api_Span)):Option Int :=
  (Al F p0 p1).bind fun y8 =>
  some y8
def An (F:Nat) (p0:(List (List api_Span))) (p1:(List api_Span)) (a0:Int):Option (Int×Bool) :=
  bif (decide (a0<((p0.length:Nat):Int))) then ((Bn p0 a0).bind fun a1 =>
  (E8 F a1 p1).bind fun a2 =>
  some (a0,a2==0)) else (some (a0,false))
def Am (F:Nat) (p0:(List (List api_Span))) (p1:(List api_Span)) (k2:(Int→Int→Option (Int×Bool))) (a1:Int) (a0:Int):Option (Int×Bool) :=
  bif (decide (a0<a1)) then ((ck (a0+a1)).bind fun a4 =>
  (ck (Int.fdiv (IntKind.u64.wrap a4) 2)).bind fun a2 =>
  (Bn p0 a2).bind fun a3 =>
  (E8 F a3 p1).bind fun a6 =>
  bif (decide (a6<0)) then ((ck (a2+1)).bind fun a5 =>
  k2 a1 a5) else (k2 a2 a0)) else (An F p0 p1 a0)
def Ad (F:Nat) (p0:(List (List api_Span))) (p1:(List api_Span)):Nat→Int→Int→Option (Int×Bool)
  | 0,_,_=>none
  | n+1,a0,a1=>Am F p0 p1 (Ad F p0 p1 n) a0 a1
def Ap (F:Nat) (p0:(List (List api_Span))) (p1:(List api_Span)):Option (Int×Bool) :=
  Ad F p0 p1 F ((p0.length:Nat):Int) 0
def C4 (F:Nat) (p0:mosaic_Node) (p1:mosaic_Message):Option (Int×Bool) :=
  (Ap F ((lkM p0.kept p1.Key).getD []) p1.Vals).bind fun a0 =>
  some (a0.1,a0.2)
def Be (F:Nat) (p0:(List (List api_Span))):Option (List (List api_Span)) :=
  (apd 24 ([]:List (List api_Span)) p0).bind fun l7 =>
  some l7
def As (F:Nat) (p0:(List api_Span)):Option (List api_Span) :=
  (apd 16 ([]:List api_Span) p0).bind fun l5 =>
  some l5
def Eb (F:Nat) (p0:mosaic_Node) (p1:mosaic_Message):Option mosaic_Node :=
  (C4 F p0 p1).bind fun a1 =>
  (Be F ((lkM p0.kept p1.Key).getD [])).bind fun a2 =>
  (As F p1.Vals).bind fun a3 =>
  (Ga F a2 a1.1 ([a3])).bind fun a4 =>
  (ck (p0.count+1)).bind fun a0 =>
  some (mosaic_Node.mk p0.spec p0.radars p0.horizon (upM p0.kept p1.Key a4) a0 p0.looks)
def Bh (F:Nat) (p0:mosaic_Node) (p1:mosaic_Message):Option (Bool×Int×mosaic_Node) :=
  (Az F p0).bind fun a1 =>
  bif a1 then (some (false,1,p0)) else ((D6 F p0 p1).bind fun a0 =>
  bif (a0 != 0) then (some (false,a0,p0)) else (bif (decide (p1.Key.Time<p0.horizon)) then (some (false,17,p0)) else ((C4 F p0 p1).bind fun a2 =>
  bif a2.2 then (some (false,0,p0)) else (bif (decide (p0.count≥256)) then (some (false,13,p0)) else ((Eb F p0 p1).bind fun a3 =>
  some (true,0,a3))))))
def D5 (F:Nat) (p0:mosaic_Node) (p1:Int):Option Int :=
  (Az F p0).bind fun a0 =>
  bif a0 then (some 1) else (bif (!(B8 p1 0 4294967296)) then (some 3) else (bif (decide (p1<p0.horizon)) then (some 17) else (some 0)))
def Bc (p0:ByteArray):Bool :=
  !(sEq p0 p0)
def B7 (p0:ByteArray) (p1:ByteArray):Int :=
  bif (Bc p0) then (bif (Bc p1) then (0) else (-1)) else (bif (Bc p1) then (1) else (bif (N4 p0 p1) then (-1) else (bif (Ml p0 p1) then (1) else (0))))
def D0 (F:Nat) (p0:Int):Option beam_slant :=
  (ck (p0*p0)).bind fun x2 =>
  (ck (262144-x2)).bind fun x3 =>
  (ck (1024*p0)).bind fun x4 =>
  (ck (p0*p0)).bind fun x5 =>
  (ck (262144+x5)).bind fun x6 =>
  some (beam_slant.mk x3 x4 x6)
def F5 (F:Nat) (p0:Int) (c0_:api_Site) (c1_:beam_slant):Option Int :=
  (ck (p0*c0_.Step)).bind fun x1 =>
  (ck (x1*c1_.c)).bind fun x2 =>
  (Kp x2 c1_.d).bind fun x3 =>
  some x3
def Ju (a0:Int):Option Int :=
  some a0
def Ha (F:Nat) (p0:api_Site) (p2:Int) (y2:beam_slant) (k2:(Int→Int→Option Int)) (a0:Int) (a2:Int):Option Int :=
  (ck (a2-a0)).bind fun a3 =>
  bif (decide (a3>1)) then ((ck (a0+a2)).bind fun a4 =>
  (Kp a4 2).bind fun a1 =>
  (F5 F a1 p0 y2).bind fun a6 =>
  (F5 F a1 p0 y2).bind fun a7 =>
  (ck (a6*a7)).bind fun a5 =>
  bif (decide (a5≤p2)) then (k2 a1 a2) else (k2 a0 a1)) else (Ju a0)
def Fh (F:Nat) (p0:api_Site) (p2:Int) (y2:beam_slant):Nat→Int→Int→Option Int
  | 0,_,_=>none
  | n+1,a0,a1=>Ha F p0 p2 y2 (Fh F p0 p2 y2 n) a0 a1
def Jf (F:Nat) (p0:api_Site) (p1:Int) (p2:Int):Option Int :=
  (D0 F p1).bind fun y2 =>
  (F5 F p0.Gates p0 y2).bind fun y4 =>
  (ck (y4*y4)).bind fun x5 =>
  bif (decide (p2≥x5)) then (some (-1)) else (Fh F p0 p2 y2 F 0 p0.Gates)
def F4 (F:Nat) (p0:Int) (p1:Int):Option beam_vector :=
  (D3 p1 p0).bind fun x2 =>
  (ck (2*p0)).bind fun x3 =>
  (ck (x3*x2)).bind fun x4 =>
  (ck (p0*p0)).bind fun x5 =>
  (ck (x2*x2)).bind fun x6 =>
  (ck (x5-x6)).bind fun x7 =>
  (ck (p0*p0)).bind fun x8 =>
  (ck (x2*x2)).bind fun x9 =>
  (ck (x8+x9)).bind fun a0 =>
  (Kp p1 p0).bind fun a1 =>
  bif (a1==0) then (some (beam_vector.mk x4 x7 a0)) else (bif (a1==1) then (bif (a1==0) then (some (beam_vector.mk x4 x7 a0)) else (some (beam_vector.mk x7 (IntKind.i64.wrap (0-x4)) a0))) else (bif (a1==0) then (some (beam_vector.mk x4 x7 a0)) else (bif (a1==2) then (bif (a1==0) then (some (beam_vector.mk x4 x7 a0)) else (some (beam_vector.mk (IntKind.i64.wrap (0-x4)) (IntKind.i64.wrap (0-x7)) a0))) else (bif (a1==0) then (some (beam_vector.mk x4 x7 a0)) else (bif (a1==3) then (bif (a1==0) then (some (beam_vector.mk x4 x7 a0)) else (some (beam_vector.mk (IntKind.i64.wrap (0-x7)) x4 a0))) else (bif (a1==0) then (some (beam_vector.mk x4 x7 a0)) else (none)))))))
def F3 (F:Nat) (p0:beam_vector) (p1:Int) (p2:Int):Option Bool :=
  (ck (p0.y*p1)).bind fun x2 =>
  (ck (p0.x*p2)).bind fun x3 =>
  some (decide (x2≥x3))
def J0 (p0:Int) (a0:Int) (a1:Int):Option Int :=
  (ck (a0*p0)).bind fun a2 =>
  (ck (a2+a1)).bind fun a3 =>
  some a3
def Hv (F:Nat) (p0:Int) (a3:Int) (a4:Int) (a5:Int) (k3:(Int→Int→Option Int)) (a0:Int) (a1:Int):Option Int :=
  (ck (a1-a0)).bind fun a6 =>
  bif (decide (a6>1)) then ((ck (a0+a1)).bind fun a7 =>
  (Kp a7 2).bind fun a2 =>
  (F4 F p0 a2).bind fun a8 =>
  (F3 F a8 a3 a4).bind fun a9 =>
  bif a9 then (k3 a2 a1) else (k3 a0 a2)) else (J0 p0 a5 a0)
def Fx (F:Nat) (p0:Int) (a0:Int) (a1:Int) (a2:Int):Nat→Int→Int→Option Int
  | 0,_,_=>none
  | n+1,a3,a4=>Hv F p0 a0 a1 a2 (Fx F p0 a0 a1 a2 n) a3 a4
def Hw (F:Nat) (p0:Int) (a0:Int) (a1:Int) (a2:Int):Option Int :=
  Fx F p0 a0 a1 a2 F 0 p0
def Gy (F:Nat) (p0:Int) (k4:(Int→Int→Int→Option Int)) (a0:Int) (a1:Int) (a2:Int):Option Int :=
  bif (bif (decide (a0<0)) then true else (decide (a1≤0))) then ((ck (a2+1)).bind fun a3 =>
  k4 (IntKind.i64.wrap (0-a1)) a0 a3) else (Hw F p0 a0 a1 a2)
def Df (F:Nat) (p0:Int):Nat→Int→Int→Int→Option Int
  | 0,_,_,_=>none
  | n+1,a0,a1,a2=>Gy F p0 (Df F p0 n) a0 a1 a2
def Kg (F:Nat) (p0:Int) (p1:Int) (p2:Int):Option Int :=
  Df F p0 F p1 p2 0
def Je (F:Nat) (p0:api_Site) (p1:Int) (p2:Int) (p3:Int):Option (Int×Int×Bool) :=
  (ck (p2-p0.X)).bind fun x2 =>
  (ck (p3-p0.Y)).bind fun x3 =>
  bif (bif (x2==0) then (x3==0) else false) then (some (0,0,true)) else ((ck (x2*x2)).bind fun x4 =>
  (ck (x3*x3)).bind fun x5 =>
  (ck (x4+x5)).bind fun x6 =>
  (Jf F p0 p1 x6).bind fun y7 =>
  bif (decide (y7<0)) then (some (0,0,false)) else ((Kg F p0.Rose x2 x3).bind fun y8 =>
  some (y8,y7,true)))
def Js (a0:(List Int)):Option ((List Int)×Int) :=
  some (a0,0)
def H9 (a1:Int) (k2:((List Int)→Int→Option ((List Int)×Int))) (a0:(List Int)):Option ((List Int)×Int) :=
  (ck (a1+1)).bind fun a2 =>
  k2 a0 a2
def Fg (a0:(List Int)) (a2:Int) (k4:((List Int)→Int→Option ((List Int)×Int))) (a3:Int):Option ((List Int)×Int) :=
  (apd 8 a0 ([a3])).bind fun a1 =>
  (ck (a2+1)).bind fun a4 =>
  k4 a1 a4
def H8 (F:Nat) (p0:api_Site) (p1:Int) (p2:api_Grid) (a3:Int) (k2:((List Int)→Int→Option ((List Int)×Int))) (k4:((List Int)→Int→Option ((List Int)×Int))) (a1:(List Int)) (a0:Int):Option ((List Int)×Int) :=
  bif (decide (a0<p2.Wide)) then ((ck (a0*p2.Size)).bind fun a4 =>
  (ck (p2.X+a4)).bind fun a5 =>
  (Kp p2.Size 2).bind fun a6 =>
  (ck (a5+a6)).bind fun a7 =>
  (ck (a3*p2.Size)).bind fun a8 =>
  (ck (p2.Y+a8)).bind fun a9 =>
  (Kp p2.Size 2).bind fun aA =>
  (ck (a9+aA)).bind fun aB =>
  (Je F p0 p1 a7 aB).bind fun a2 =>
  bif a2.2.2 then ((ck (a2.1*p0.Gates)).bind fun aC =>
  (ck (aC+a2.2.1)).bind fun aD =>
  Fg a1 a0 k4 aD) else (Fg a1 a0 k4 (-1))) else (H9 a3 k2 a1)
def Ee (F:Nat) (p0:api_Site) (p1:Int) (p2:api_Grid) (a0:Int) (k2:((List Int)→Int→Option ((List Int)×Int))):Nat→(List Int)→Int→Option ((List Int)×Int)
  | 0,_,_=>none
  | n+1,a1,a2=>H8 F p0 p1 p2 a0 k2 (Ee F p0 p1 p2 a0 k2 n) a1 a2
def H7 (F:Nat) (p0:api_Site) (p1:Int) (p2:api_Grid) (k2:((List Int)→Int→Option ((List Int)×Int))) (a0:(List Int)) (a1:Int):Option ((List Int)×Int) :=
  bif (decide (a1<p2.High)) then (Ee F p0 p1 p2 a1 k2 F a0 0) else (Js a0)
def Ed (F:Nat) (p0:api_Site) (p1:Int) (p2:api_Grid):Nat→(List Int)→Int→Option ((List Int)×Int)
  | 0,_,_=>none
  | n+1,a0,a1=>H7 F p0 p1 p2 (Ed F p0 p1 p2 n) a0 a1
def Gf (F:Nat) (p0:api_Site) (p1:Int) (p2:api_Grid):Option ((List Int)×Int) :=
  (beam_CheckSite F p0).bind fun y3 =>
  bif (y3 != 0) then (some (([]:(List Int)),y3)) else (bif ((B5 p2) != 0) then (some (([]:(List Int)),(B5 p2))) else (bif (!(A6 p1 0 256)) then (some (([]:(List Int)),3)) else ((ck (p2.Wide*p2.High)).bind fun x4 =>
  (mk0 8 x4).bind fun c6 =>
  Ed F p0 p1 p2 F ([]:List Int) 0)))
def Do (p0:api_Span):Bool :=
  bif (bif (decide (1000000≤p0.Lo)) then (decide (p0.Lo≤p0.Hi)) else false) then (decide (p0.Hi≤100000000)) else false
def Gg (F:Nat) (p0:Int) (p1:Int):Option Int :=
  (Kp p0 p1).bind fun x1 =>
  (ck (x1*p1)).bind fun x2 =>
  bif (decide (x2>p0)) then ((ck (x1-1)).bind fun x3 =>
  some x3) else (some x1)
def Jv (F:Nat) (p0:Int) (p1:Int):Option Int :=
  (Kp p0 p1).bind fun x1 =>
  (ck (x1*p1)).bind fun x2 =>
  bif (decide (x2<p0)) then ((ck (x1+1)).bind fun x3 =>
  some x3) else (some x1)
def E4 (F:Nat) (p0:api_Site) (p1:Int) (p2:Int):Option Int :=
  (D0 F p1).bind fun y2 =>
  (ck (2*p2)).bind fun x4 =>
  (ck (x4+1)).bind fun x5 =>
  (ck (x5*p0.Step)).bind fun x6 =>
  (ck (x6*y2.c)).bind fun x7 =>
  (ck (2*y2.d)).bind fun x8 =>
  (Gg F x7 x8).bind fun y9 =>
  some y9
def Eo (F:Nat) (p0:api_Site) (p1:Int) (p2:Int) (p3:Int):Option Int :=
  (D0 F p1).bind fun y2 =>
  (E4 F p0 p1 p2).bind fun y5 =>
  (ck (2*p2)).bind fun x6 =>
  (ck (x6+1)).bind fun x7 =>
  (ck (x7*p0.Step)).bind fun x8 =>
  (ck (x8*y2.s)).bind fun x9 =>
  (ck (2*y2.d)).bind fun a0 =>
  (ck (y5*y5)).bind fun a1 =>
  (ck (2*p3)).bind fun a2 =>
  (Gg F x9 a0).bind fun a5 =>
  (ck (p0.Z+a5)).bind fun a3 =>
  (Gg F a1 a2).bind fun a6 =>
  (ck (a3+a6)).bind fun a4 =>
  some a4
def E5 (F:Nat) (p0:api_Site) (p1:Int) (p2:Int):Option Int :=
  (D0 F p1).bind fun y2 =>
  (ck (2*p2)).bind fun x4 =>
  (ck (x4+1)).bind fun x5 =>
  (ck (x5*p0.Step)).bind fun x6 =>
  (ck (x6*y2.c)).bind fun x7 =>
  (ck (2*y2.d)).bind fun x8 =>
  (Jv F x7 x8).bind fun y9 =>
  some y9
def Ep (F:Nat) (p0:api_Site) (p1:Int) (p2:Int) (p3:Int):Option Int :=
  (D0 F p1).bind fun y2 =>
  (E5 F p0 p1 p2).bind fun y5 =>
  (ck (2*p2)).bind fun x6 =>
  (ck (x6+1)).bind fun x7 =>
  (ck (x7*p0.Step)).bind fun x8 =>
  (ck (x8*y2.s)).bind fun x9 =>
  (ck (2*y2.d)).bind fun a0 =>
  (ck (y5*y5)).bind fun a1 =>
  (ck (2*p3)).bind fun a2 =>
  (Jv F x9 a0).bind fun a5 =>
  (ck (p0.Z+a5)).bind fun a3 =>
  (Jv F a1 a2).bind fun a6 =>
  (ck (a3+a6)).bind fun a4 =>
  some a4
def Jc (F:Nat) (p0:api_Site) (p1:Int) (p2:api_Span) (p3:Int):Option (api_Span×Int) :=
  (beam_CheckSite F p0).bind fun y4 =>
  bif (y4 != 0) then (some ((api_Span.mk 0 0),y4)) else ((gd (((bif (!(A6 p1 0 256)) then true else (!(Do p2)))==false&&true)) (ck (p0.Gates-1)) 0).bind fun x5 =>
  bif (bif (bif (!(A6 p1 0 256)) then true else (!(Do p2))) then true else (!(A6 p3 0 x5))) then (some ((api_Span.mk 0 0),3)) else ((ck (p1-p0.Width)).bind fun x6 =>
  (ck (p1+p0.Width)).bind fun x7 =>
  (Eo F p0 x6 p3 p2.Hi).bind fun y9 =>
  (Ep F p0 x7 p3 p2.Lo).bind fun a0 =>
  some ((api_Span.mk y9 a0),0)))
def Dn (p0:mosaic_Node) (p1:mosaic_Key) (a0:(List api_Span)):Option ((List api_Span)×(List (mosaic_where×(List api_Span)))) :=
  some (a0,(upM p0.looks (mosaic_where.mk p1.Name p1.Tilt) a0))
def C8 (a0:(List api_Span)) (a2:Int) (k2:((List api_Span)→Int→Option ((List api_Span)×(List (mosaic_where×(List api_Span)))))) (a3:Int) (a4:Int):Option ((List api_Span)×(List (mosaic_where×(List api_Span)))) :=
  (apd 16 a0 ([(api_Span.mk a3 a4)])).bind fun a1 =>
  (ck (a2+1)).bind fun a5 =>
  k2 a1 a5
def Dm (F:Nat) (p0:mosaic_Node) (p1:mosaic_Key) (a4:((List Int)×Int)) (k2:((List api_Span)→Int→Option ((List api_Span)×(List (mosaic_where×(List api_Span)))))) (a1:(List api_Span)) (a0:Int):Option ((List api_Span)×(List (mosaic_where×(List api_Span)))) :=
  bif (decide (a0<((a4.1.length:Nat):Int))) then ((Bn a4.1 a0).bind fun a2 =>
  bif (decide (a2≥0)) then ((D3 a2 ((((lkM p0.radars p1.Name).getD (mosaic_Radar.mk (api_Site.mk ByteArray.empty 0 0 0 0 0 0 0) (api_Span.mk 0 0))).Site).Gates)).bind fun a5 =>
  (Jc F (api_Site.mk ((((lkM p0.radars p1.Name).getD (mosaic_Radar.mk (api_Site.mk ByteArray.empty 0 0 0 0 0 0 0) (api_Span.mk 0 0))).Site).Name) ((((lkM p0.radars p1.Name).getD (mosaic_Radar.mk (api_Site.mk ByteArray.empty 0 0 0 0 0 0 0) (api_Span.mk 0 0))).Site).X) ((((lkM p0.radars p1.Name).getD (mosaic_Radar.mk (api_Site.mk ByteArray.empty 0 0 0 0 0 0 0) (api_Span.mk 0 0))).Site).Y) ((((lkM p0.radars p1.Name).getD (mosaic_Radar.mk (api_Site.mk ByteArray.empty 0 0 0 0 0 0 0) (api_Span.mk 0 0))).Site).Z) ((((lkM p0.radars p1.Name).getD (mosaic_Radar.mk (api_Site.mk ByteArray.empty 0 0 0 0 0 0 0) (api_Span.mk 0 0))).Site).Rose) ((((lkM p0.radars p1.Name).getD (mosaic_Radar.mk (api_Site.mk ByteArray.empty 0 0 0 0 0 0 0) (api_Span.mk 0 0))).Site).Gates) ((((lkM p0.radars p1.Name).getD (mosaic_Radar.mk (api_Site.mk ByteArray.empty 0 0 0 0 0 0 0) (api_Span.mk 0 0))).Site).Step) ((((lkM p0.radars p1.Name).getD (mosaic_Radar.mk (api_Site.mk ByteArray.empty 0 0 0 0 0 0 0) (api_Span.mk 0 0))).Site).Width)) p1.Tilt p0.spec.Earth a5).bind fun a3 =>
  C8 a1 a0 k2 a3.1.Lo a3.1.Hi) else (C8 a1 a0 k2 1 0)) else (Dn p0 p1 a1)
def Bm (F:Nat) (p0:mosaic_Node) (p1:mosaic_Key) (a0:((List Int)×Int)):Nat→(List api_Span)→Int→Option ((List api_Span)×(List (mosaic_where×(List api_Span))))
  | 0,_,_=>none
  | n+1,a1,a2=>Dm F p0 p1 a0 (Bm F p0 p1 a0 n) a1 a2
def Dl (F:Nat) (p0:mosaic_Node) (p1:mosaic_Key):Option ((List api_Span)×(List (mosaic_where×(List api_Span)))) :=
  bif ((lkM p0.looks (mosaic_where.mk p1.Name p1.Tilt)).isSome) then (some (((lkM p0.looks (mosaic_where.mk p1.Name p1.Tilt)).getD []),p0.looks)) else ((Gf F (api_Site.mk ((((lkM p0.radars p1.Name).getD (mosaic_Radar.mk (api_Site.mk ByteArray.empty 0 0 0 0 0 0 0) (api_Span.mk 0 0))).Site).Name) ((((lkM p0.radars p1.Name).getD (mosaic_Radar.mk (api_Site.mk ByteArray.empty 0 0 0 0 0 0 0) (api_Span.mk 0 0))).Site).X) ((((lkM p0.radars p1.Name).getD (mosaic_Radar.mk (api_Site.mk ByteArray.empty 0 0 0 0 0 0 0) (api_Span.mk 0 0))).Site).Y) ((((lkM p0.radars p1.Name).getD (mosaic_Radar.mk (api_Site.mk ByteArray.empty 0 0 0 0 0 0 0) (api_Span.mk 0 0))).Site).Z) ((((lkM p0.radars p1.Name).getD (mosaic_Radar.mk (api_Site.mk ByteArray.empty 0 0 0 0 0 0 0) (api_Span.mk 0 0))).Site).Rose) ((((lkM p0.radars p1.Name).getD (mosaic_Radar.mk (api_Site.mk ByteArray.empty 0 0 0 0 0 0 0) (api_Span.mk 0 0))).Site).Gates) ((((lkM p0.radars p1.Name).getD (mosaic_Radar.mk (api_Site.mk ByteArray.empty 0 0 0 0 0 0 0) (api_Span.mk 0 0))).Site).Step) ((((lkM p0.radars p1.Name).getD (mosaic_Radar.mk (api_Site.mk ByteArray.empty 0 0 0 0 0 0 0) (api_Span.mk 0 0))).Site).Width)) p1.Tilt p0.spec.Grid).bind fun a0 =>
  Bm F p0 p1 a0 F ([]) 0)
def Ek (a0:(List (mosaic_where×(List api_Span)))) (a1:(List mosaic_used)):Option ((List mosaic_used)×(List (mosaic_where×(List api_Span)))) :=
  some (a1,a0)
def Cq (a2:Int) (k3:((List (mosaic_where×(List api_Span)))→Int→(List mosaic_used)→Option ((List mosaic_used)×(List (mosaic_where×(List api_Span)))))) (a0:(List (mosaic_where×(List api_Span)))) (a1:(List mosaic_used)):Option ((List mosaic_used)×(List (mosaic_where×(List api_Span)))) :=
  (ck (a2+1)).bind fun a3 =>
  k3 a0 a3 a1
def Ei (F:Nat) (p0:mosaic_Node) (a4:(List (mosaic_where×mosaic_Key))) (a5:(List mosaic_Key)) (k3:((List (mosaic_where×(List api_Span)))→Int→(List mosaic_used)→Option ((List mosaic_used)×(List (mosaic_where×(List api_Span)))))) (a2:(List (mosaic_where×(List api_Span)))) (a1:Int) (a3:(List mosaic_used)):Option ((List mosaic_used)×(List (mosaic_where×(List api_Span)))) :=
  bif (decide (a1<((a5.length:Nat):Int))) then ((Bn a5 a1).bind fun a0 =>
  bif (((((lkM a4 (mosaic_where.mk a0.Name a0.Tilt)).getD (mosaic_Key.mk ByteArray.empty 0 0)).Name)==a0.Name)&&(((((lkM a4 (mosaic_where.mk a0.Name a0.Tilt)).getD (mosaic_Key.mk ByteArray.empty 0 0)).Tilt:Int)==a0.Tilt)&&(((((lkM a4 (mosaic_where.mk a0.Name a0.Tilt)).getD (mosaic_Key.mk ByteArray.empty 0 0)).Time:Int)==a0.Time)&&true))) then ((Bn ((lkM p0.kept a0).getD []) 0).bind fun a8 =>
  (Dl F (mosaic_Node.mk p0.spec p0.radars p0.horizon p0.kept p0.count a2) a0).bind fun a6 =>
  (apd 80 a3 ([(mosaic_used.mk a0 a8 a6.1)])).bind fun a7 =>
  Cq a1 k3 a6.2 a7) else (Cq a1 k3 a2 a3)) else (Ek a2 a3)
def C1 (F:Nat) (p0:mosaic_Node) (a0:(List (mosaic_where×mosaic_Key))) (a1:(List mosaic_Key)):Nat→(List (mosaic_where×(List api_Span)))→Int→(List mosaic_used)→Option ((List mosaic_used)×(List (mosaic_where×(List api_Span))))
  | 0,_,_,_=>none
  | n+1,a2,a4,a3=>Ei F p0 a0 a1 (C1 F p0 a0 a1 n) a2 a4 a3
def Cp (F:Nat) (p0:mosaic_Node) (a0:(List (mosaic_where×mosaic_Key))):Option ((List mosaic_used)×(List (mosaic_where×(List api_Span)))) :=
  (Dk F p0).bind fun a1 =>
  C1 F p0 a0 a1 F p0.looks 0 ([])
def Cr (a1:Int) (k5:((List (mosaic_where×mosaic_Key))→Int→Option ((List mosaic_used)×(List (mosaic_where×(List api_Span)))))) (a0:(List (mosaic_where×mosaic_Key))):Option ((List mosaic_used)×(List (mosaic_where×(List api_Span)))) :=
  (ck (a1+1)).bind fun a2 =>
  k5 a0 a2
def Ej (F:Nat) (p0:mosaic_Node) (p1:Int) (a4:(List mosaic_Key)) (k5:((List (mosaic_where×mosaic_Key))→Int→Option ((List mosaic_used)×(List (mosaic_where×(List api_Span)))))) (a2:(List (mosaic_where×mosaic_Key))) (a1:Int):Option ((List mosaic_used)×(List (mosaic_where×(List api_Span)))) :=
  bif (decide (a1<((a4.length:Nat):Int))) then ((Bn a4 a1).bind fun a0 =>
  (gd (((((((lkM p0.kept a0).getD []).length:Nat):Int)==1)==true&&true)) (ck (a0.Time+((((lkM p0.radars a0.Name).getD (mosaic_Radar.mk (api_Site.mk ByteArray.empty 0 0 0 0 0 0 0) (api_Span.mk 0 0))).Offset).Hi))) 0).bind fun a3 =>
  (gd (((bif (((((lkM p0.kept a0).getD []).length:Nat):Int)==1) then (decide (a3≤p1)) else false)==true&&true)) (ck (p1-a0.Time)) 0).bind fun a5 =>
  (gd (((bif (((((lkM p0.kept a0).getD []).length:Nat):Int)==1) then (decide (a3≤p1)) else false)==true&&true)) (ck (a5-((((lkM p0.radars a0.Name).getD (mosaic_Radar.mk (api_Site.mk ByteArray.empty 0 0 0 0 0 0 0) (api_Span.mk 0 0))).Offset).Lo))) 0).bind fun a6 =>
  bif (bif (bif (((((lkM p0.kept a0).getD []).length:Nat):Int)==1) then (decide (a3≤p1)) else false) then (decide (a6≤p0.spec.Age)) else false) then (Cr a1 k5 (upM a2 (mosaic_where.mk a0.Name a0.Tilt) a0)) else (Cr a1 k5 a2)) else (Cp F p0 a2)
def C2 (F:Nat) (p0:mosaic_Node) (p1:Int) (a0:(List mosaic_Key)):Nat→(List (mosaic_where×mosaic_Key))→Int→Option ((List mosaic_used)×(List (mosaic_where×(List api_Span))))
  | 0,_,_=>none
  | n+1,a1,a2=>Ej F p0 p1 a0 (C2 F p0 p1 a0 n) a1 a2
def Et (F:Nat) (p0:mosaic_Node) (p1:Int):Option ((List mosaic_used)×(List (mosaic_where×(List api_Span)))) :=
  (Dk F p0).bind fun a0 =>
  C2 F p0 p1 a0 F ([]:List (mosaic_where×mosaic_Key)) 0
def H3 (p0:api_Span):Bool :=
  decide (p0.Lo≤p0.Hi)
def Dx (a1:((List mosaic_used)×(List (mosaic_where×(List api_Span))))) (a0:(List mosaic_Pixel)):Option ((List mosaic_Pixel)×Int×(List (mosaic_where×(List api_Span)))) :=
  some (a0,0,a1.2)
def Dy (a1:Int) (k2:(Int→(List mosaic_Pixel)→Option ((List mosaic_Pixel)×Int×(List (mosaic_where×(List api_Span)))))) (a0:(List mosaic_Pixel)):Option ((List mosaic_Pixel)×Int×(List (mosaic_where×(List api_Span)))) :=
  (ck (a1+1)).bind fun a2 =>
  k2 a2 a0
def Ch (a3:Int) (a0:(List mosaic_Pixel)) (k2:(Int→(List mosaic_Pixel)→Option ((List mosaic_Pixel)×Int×(List (mosaic_where×(List api_Span)))))) (a4:Int) (a5:Int) (a2:ByteArray) (a6:Int) (a7:Int):Option ((List mosaic_Pixel)×Int×(List (mosaic_where×(List api_Span)))) :=
  (apd 48 a0 ([(mosaic_Pixel.mk (api_Span.mk a4 a5) (mosaic_Key.mk a2 a6 a7))])).bind fun a1 =>
  Dy a3 k2 a1
def Bt (a5:((List mosaic_used)×(List (mosaic_where×(List api_Span))))) (a1:Int) (a2:(List mosaic_Pixel)) (k2:(Int→(List mosaic_Pixel)→Option ((List mosaic_Pixel)×Int×(List (mosaic_where×(List api_Span)))))) (a4:Int):Option ((List mosaic_Pixel)×Int×(List (mosaic_where×(List api_Span)))) :=
  bif (decide (a4<0)) then (Ch a1 a2 k2 0 1000000 ByteArray.empty 0 0) else ((Bn a5.1 a4).bind fun a0 =>
  (Bn a0.vals a1).bind fun a3 =>
  Ch a1 a2 k2 a3.Lo a3.Hi a0.Key.Name a0.Key.Tilt a0.Key.Time)
def Bj (a0:Int) (k6:(Int→Int→Option ((List mosaic_Pixel)×Int×(List (mosaic_where×(List api_Span)))))) (a1:Int):Option ((List mosaic_Pixel)×Int×(List (mosaic_where×(List api_Span)))) :=
  (ck (a0+1)).bind fun a2 =>
  k6 a1 a2
def Dw (F:Nat) (a5:((List mosaic_used)×(List (mosaic_where×(List api_Span))))) (a2:Int) (a6:(List mosaic_Pixel)) (k2:(Int→(List mosaic_Pixel)→Option ((List mosaic_Pixel)×Int×(List (mosaic_where×(List api_Span)))))) (k6:(Int→Int→Option ((List mosaic_Pixel)×Int×(List (mosaic_where×(List api_Span)))))) (a4:Int) (a0:Int):Option ((List mosaic_Pixel)×Int×(List (mosaic_where×(List api_Span)))) :=
  bif (decide (a0<((a5.1.length:Nat):Int))) then ((Bn a5.1 a0).bind fun a1 =>
  (Bn a1.bands a2).bind fun a7 =>
  bif (!(H3 a7)) then (Bj a0 k6 a4) else (bif (decide (a4<0)) then (Bj a0 k6 a0) else ((Bn a5.1 a4).bind fun a3 =>
  (Bn a1.bands a2).bind fun a8 =>
  (Bn a3.bands a2).bind fun a9 =>
  (Bn a1.bands a2).bind fun aA =>
  (Bn a3.bands a2).bind fun aB =>
  (Hk F ([(Ab a8.Hi a9.Hi),(Ab aA.Lo aB.Lo),(Ab a3.Key.Time a1.Key.Time),(B7 a1.Key.Name a3.Key.Name),(Ab a1.Key.Tilt a3.Key.Tilt)])).bind fun aC =>
  bif (decide (aC<0)) then (Bj a0 k6 a0) else (Bj a0 k6 a4)))) else (Bt a5 a2 a6 k2 a4)
def Bk (F:Nat) (a2:((List mosaic_used)×(List (mosaic_where×(List api_Span))))) (a1:Int) (a0:(List mosaic_Pixel)) (k2:(Int→(List mosaic_Pixel)→Option ((List mosaic_Pixel)×Int×(List (mosaic_where×(List api_Span)))))):Nat→Int→Int→Option ((List mosaic_Pixel)×Int×(List (mosaic_where×(List api_Span))))
  | 0,_,_=>none
  | n+1,a3,a4=>Dw F a2 a1 a0 k2 (Bk F a2 a1 a0 k2 n) a3 a4
def Dv (F:Nat) (a2:((List mosaic_used)×(List (mosaic_where×(List api_Span))))) (a3:Int) (k2:(Int→(List mosaic_Pixel)→Option ((List mosaic_Pixel)×Int×(List (mosaic_where×(List api_Span)))))) (a1:Int) (a0:(List mosaic_Pixel)):Option ((List mosaic_Pixel)×Int×(List (mosaic_where×(List api_Span)))) :=
  bif (decide (a1<a3)) then (Bk F a2 a1 a0 k2 F (-1) 0) else (Dx a2 a0)
def B4 (F:Nat) (a1:((List mosaic_used)×(List (mosaic_where×(List api_Span))))) (a0:Int):Nat→Int→(List mosaic_Pixel)→Option ((List mosaic_Pixel)×Int×(List (mosaic_where×(List api_Span))))
  | 0,_,_=>none
  | n+1,a3,a2=>Dv F a1 a0 (B4 F a1 a0 n) a3 a2
def B1 (F:Nat) (p0:mosaic_Node) (p1:Int):Option ((List mosaic_Pixel)×Int×(List (mosaic_where×(List api_Span)))) :=
  (D5 F p0 p1).bind fun a0 =>
  bif (a0 != 0) then (some (([]:(List mosaic_Pixel)),a0,p0.looks)) else ((Et F p0 p1).bind fun a2 =>
  (ck (p0.spec.Grid.Wide*p0.spec.Grid.High)).bind fun a1 =>
  B4 F a2 a1 F 0 ([]))
def A8 (p0:Int):api_Span :=
  (api_Span.mk p0 p0)
def law11_S:mosaic_Spec :=
  (mosaic_Spec.mk (api_Grid.mk (-2000) (-1000) 1000 4 2) (A8 8000000) ([(mosaic_Radar.mk (api_Site.mk (⟨#[97]⟩:ByteArray) (-1500) (-500) 100 1 3 1000 0) (api_Span.mk 0 0)),(mosaic_Radar.mk (api_Site.mk (⟨#[98]⟩:ByteArray) 1500 (-500) 100 1 3 1000 0) (api_Span.mk 5 10))]) 600)
def Gk (p0:ByteArray) (p1:Int) (a0:(List api_Span)):Option mosaic_Message :=
  some (mosaic_Message.mk (mosaic_Key.mk p0 0 p1) a0)
def Gj (p0:ByteArray) (p1:Int) (p2:Int) (k2:((List api_Span)→Int→Option mosaic_Message)) (a0:(List api_Span)) (a1:Int):Option mosaic_Message :=
  bif (decide (a1<8)) then ((apd 16 a0 ([(A8 p2)])).bind fun a2 =>
  (ck (a1+1)).bind fun a3 =>
  k2 a2 a3) else (Gk p0 p1 a0)
def Fj (p0:ByteArray) (p1:Int) (p2:Int):Nat→(List api_Span)→Int→Option mosaic_Message
  | 0,_,_=>none
  | n+1,a0,a1=>Gj p0 p1 p2 (Fj p0 p1 p2 n) a0 a1
def Gw (F:Nat) (p0:ByteArray) (p1:Int) (p2:Int):Option mosaic_Message :=
  Fj p0 p1 p2 F ([]) 0
def Gz (F:Nat):Option Bool :=
  (Gm F (mosaic_Spec.mk (api_Grid.mk law11_S.Grid.X law11_S.Grid.Y law11_S.Grid.Size law11_S.Grid.Wide law11_S.Grid.High) (api_Span.mk law11_S.Earth.Lo law11_S.Earth.Hi) law11_S.Radars law11_S.Age)).bind fun y7 =>
  exc y7 (fun a7=>bif (a7 != 0) then (some false) else (none)) (fun a2=>bif (a2.2 != 0) then (some false) else ((Gw F (⟨#[97]⟩:ByteArray) 100 5).bind fun a8 =>
  (Bh F (mosaic_Node.mk (mosaic_Spec.mk (api_Grid.mk a2.1.spec.Grid.X a2.1.spec.Grid.Y a2.1.spec.Grid.Size a2.1.spec.Grid.Wide a2.1.spec.Grid.High) (api_Span.mk a2.1.spec.Earth.Lo a2.1.spec.Earth.Hi) a2.1.spec.Radars a2.1.spec.Age) a2.1.radars a2.1.horizon a2.1.kept a2.1.count a2.1.looks) a8).bind fun a0 =>
  (Gw F (⟨#[98]⟩:ByteArray) 100 7).bind fun a9 =>
  (Bh F (mosaic_Node.mk (mosaic_Spec.mk (api_Grid.mk a0.2.2.spec.Grid.X a0.2.2.spec.Grid.Y a0.2.2.spec.Grid.Size a0.2.2.spec.Grid.Wide a0.2.2.spec.Grid.High) (api_Span.mk a0.2.2.spec.Earth.Lo a0.2.2.spec.Earth.Hi) a0.2.2.spec.Radars a0.2.2.spec.Age) a0.2.2.radars a0.2.2.horizon a0.2.2.kept a0.2.2.count a0.2.2.looks) a9).bind fun a1 =>
  (B1 F (mosaic_Node.mk (mosaic_Spec.mk (api_Grid.mk a1.2.2.spec.Grid.X a1.2.2.spec.Grid.Y a1.2.2.spec.Grid.Size a1.2.2.spec.Grid.Wide a1.2.2.spec.Grid.High) (api_Span.mk a1.2.2.spec.Earth.Lo a1.2.2.spec.Earth.Hi) a1.2.2.spec.Radars a1.2.2.spec.Age) a1.2.2.radars a1.2.2.horizon a1.2.2.kept a1.2.2.count a1.2.2.looks) 110).bind fun a3 =>
  (gd (((bif (bif (bif (bif (bif a0.1 then a1.1 else false) then (a0.2.1==0) else false) then (a1.2.1==0) else false) then (a3.2.1==0) else false) then (((a3.1.length:Nat):Int)==8) else false)==true&&true)) (Bn a3.1 0) default).bind fun a4 =>
  (gd (((bif (bif (bif (bif (bif (bif a0.1 then a1.1 else false) then (a0.2.1==0) else false) then (a1.2.1==0) else false) then (a3.2.1==0) else false) then (((a3.1.length:Nat):Int)==8) else false) then (((a4.Value_.Lo:Int)==(A8 5).Lo)&&(((a4.Value_.Hi:Int)==(A8 5).Hi)&&true)) else false)==true&&true)) (Bn a3.1 2) default).bind fun a5 =>
  (gd (((bif (bif (bif (bif (bif (bif (bif a0.1 then a1.1 else false) then (a0.2.1==0) else false) then (a1.2.1==0) else false) then (a3.2.1==0) else false) then (((a3.1.length:Nat):Int)==8) else false) then (((a4.Value_.Lo:Int)==(A8 5).Lo)&&(((a4.Value_.Hi:Int)==(A8 5).Hi)&&true)) else false) then ((a5.Key.Name==(⟨#[97]⟩:ByteArray))&&(((a5.Key.Tilt:Int)==0)&&(((a5.Key.Time:Int)==100)&&true))) else false)==true&&true)) (Bn a3.1 3) default).bind fun a6 =>
  some (bif (bif (bif (bif (bif (bif (bif (bif a0.1 then a1.1 else false) then (a0.2.1==0) else false) then (a1.2.1==0) else false) then (a3.2.1==0) else false) then (((a3.1.length:Nat):Int)==8) else false) then (((a4.Value_.Lo:Int)==(A8 5).Lo)&&(((a4.Value_.Hi:Int)==(A8 5).Hi)&&true)) else false) then ((a5.Key.Name==(⟨#[97]⟩:ByteArray))&&(((a5.Key.Tilt:Int)==0)&&(((a5.Key.Time:Int)==100)&&true))) else false) then ((((a6.Value_.Lo:Int)==(A8 7).Lo)&&(((a6.Value_.Hi:Int)==(A8 7).Hi)&&true))&&(((a6.Key.Name==(⟨#[98]⟩:ByteArray))&&(((a6.Key.Tilt:Int)==0)&&(((a6.Key.Time:Int)==100)&&true)))&&true)) else false)))
def G4 (x6:Int) (x9:Int) (a1:Int) (a0:(List mosaic_Radar)):Option mosaic_Spec :=
  some (mosaic_Spec.mk (api_Grid.mk (-2000) (-2000) 1000 x6 x9) (api_Span.mk 8000000 9000000) a0 a1)
def Dj (p0:law11_Net) (x6:Int) (x9:Int) (aB:Int) (k2:((List mosaic_Radar)→Int→Option mosaic_Spec)) (a1:(List mosaic_Radar)) (a0:Int):Option mosaic_Spec :=
  (ck p0.Count).bind fun aC =>
  (D3 aC 3).bind fun aD =>
  bif (decide (a0≤aD)) then (bif (a0==0) then ((ck p0.Stations.1.Lo).bind fun aE =>
  (D3 aE 601).bind fun aF =>
  (ck (aF-300)).bind fun a2 =>
  (Bn ([(⟨#[97]⟩:ByteArray),(⟨#[98]⟩:ByteArray),(⟨#[99]⟩:ByteArray)]) a0).bind fun a8 =>
  (ck p0.Stations.1.X).bind fun aG =>
  (D3 aG 4000).bind fun aH =>
  (ck p0.Stations.1.Y).bind fun aI =>
  (D3 aI 4000).bind fun aJ =>
  (ck p0.Stations.1.Z).bind fun aK =>
  (D3 aK 1000).bind fun aL =>
  (ck p0.Stations.1.Rose).bind fun aM =>
  (D3 aM 3).bind fun aN =>
  (ck (1+aN)).bind fun aO =>
  (ck p0.Stations.1.Gates).bind fun aP =>
  (D3 aP 5).bind fun aQ =>
  (ck (1+aQ)).bind fun aR =>
  (ck p0.Stations.1.Width).bind fun aS =>
  (D3 aS 3).bind fun aT =>
  (ck p0.Stations.1.Hi).bind fun aU =>
  (D3 aU 300).bind fun aV =>
  (ck (a2+aV)).bind fun aW =>
  (apd 88 a1 ([(mosaic_Radar.mk (api_Site.mk a8 aH aJ aL aO aR 1000 aT) (api_Span.mk a2 aW))])).bind fun a5 =>
  (ck (a0+1)).bind fun aX =>
  k2 a5 aX) else (bif (a0==1) then ((ck p0.Stations.2.1.Lo).bind fun aY =>
  (D3 aY 601).bind fun aZ =>
  (ck (aZ-300)).bind fun a3 =>
  (Bn ([(⟨#[97]⟩:ByteArray),(⟨#[98]⟩:ByteArray),(⟨#[99]⟩:ByteArray)]) a0).bind fun a9 =>
  (ck p0.Stations.2.1.X).bind fun b0 =>
  (D3 b0 4000).bind fun b1 =>
  (ck p0.Stations.2.1.Y).bind fun b2 =>
  (D3 b2 4000).bind fun b3 =>
  (ck p0.Stations.2.1.Z).bind fun b4 =>
  (D3 b4 1000).bind fun b5 =>
  (ck p0.Stations.2.1.Rose).bind fun b6 =>
  (D3 b6 3).bind fun b7 =>
  (ck (1+b7)).bind fun b8 =>
  (ck p0.Stations.2.1.Gates).bind fun b9 =>
  (D3 b9 5).bind fun bA =>
  (ck (1+bA)).bind fun bB =>
  (ck p0.Stations.2.1.Width).bind fun bC =>
  (D3 bC 3).bind fun bD =>
  (ck p0.Stations.2.1.Hi).bind fun bE =>
  (D3 bE 300).bind fun bF =>
  (ck (a3+bF)).bind fun bG =>
  (apd 88 a1 ([(mosaic_Radar.mk (api_Site.mk a9 b1 b3 b5 b8 bB 1000 bD) (api_Span.mk a3 bG))])).bind fun a6 =>
  (ck (a0+1)).bind fun bH =>
  k2 a6 bH) else (bif (a0==2) then ((ck p0.Stations.2.2.Lo).bind fun bI =>
  (D3 bI 601).bind fun bJ =>
  (ck (bJ-300)).bind fun a4 =>
  (Bn ([(⟨#[97]⟩:ByteArray),(⟨#[98]⟩:ByteArray),(⟨#[99]⟩:ByteArray)]) a0).bind fun aA =>
  (ck p0.Stations.2.2.X).bind fun bK =>
  (D3 bK 4000).bind fun bL =>
  (ck p0.Stations.2.2.Y).bind fun bM =>
  (D3 bM 4000).bind fun bN =>
  (ck p0.Stations.2.2.Z).bind fun bO =>
  (D3 bO 1000).bind fun bP =>
  (ck p0.Stations.2.2.Rose).bind fun bQ =>
  (D3 bQ 3).bind fun bR =>
  (ck (1+bR)).bind fun bS =>
  (ck p0.Stations.2.2.Gates).bind fun bT =>
  (D3 bT 5).bind fun bU =>
  (ck (1+bU)).bind fun bV =>
  (ck p0.Stations.2.2.Width).bind fun bW =>
  (D3 bW 3).bind fun bX =>
  (ck p0.Stations.2.2.Hi).bind fun bY =>
  (D3 bY 300).bind fun bZ =>
  (ck (a4+bZ)).bind fun c0 =>
  (apd 88 a1 ([(mosaic_Radar.mk (api_Site.mk aA bL bN bP bS bV 1000 bX) (api_Span.mk a4 c0))])).bind fun a7 =>
  (ck (a0+1)).bind fun c1 =>
  k2 a7 c1) else (none)))) else (G4 x6 x9 aB a1)
def Bf (p0:law11_Net) (x6:Int) (x9:Int) (a0:Int):Nat→(List mosaic_Radar)→Int→Option mosaic_Spec
  | 0,_,_=>none
  | n+1,a1,a2=>Dj p0 x6 x9 a0 (Bf p0 x6 x9 a0 n) a1 a2
def E7 (F:Nat) (p0:law11_Net):Option mosaic_Spec :=
  (ck p0.Wide).bind fun x4 =>
  (D3 x4 4).bind fun x5 =>
  (ck (1+x5)).bind fun x6 =>
  (ck p0.High).bind fun x7 =>
  (D3 x7 4).bind fun x8 =>
  (ck (1+x8)).bind fun x9 =>
  (ck p0.Age).bind fun a0 =>
  (D3 a0 2000).bind fun a1 =>
  (ck (1+a1)).bind fun a2 =>
  Bf p0 x6 x9 a2 F ([]) 0
def Eh (a1:mosaic_Radar) (a2:Int) (a3:Int) (a0:(List api_Span)):Option mosaic_Message :=
  some (mosaic_Message.mk (mosaic_Key.mk a1.Site.Name a2 a3) a0)
def Co (p0:law11_Post) (a1:(List api_Span)) (a3:Int) (k2:((List api_Span)→Int→Option mosaic_Message)) (a0:Int):Option mosaic_Message :=
  (ck p0.Wide).bind fun a4 =>
  (ck (a0+a4)).bind fun a5 =>
  (apd 16 a1 ([(api_Span.mk a0 a5)])).bind fun a2 =>
  (ck (a3+1)).bind fun a6 =>
  k2 a2 a6
def Eg (p0:law11_Post) (p1:mosaic_Spec) (a2:mosaic_Radar) (a5:Int) (a8:Int) (k2:((List api_Span)→Int→Option mosaic_Message)) (a1:(List api_Span)) (a0:Int):Option mosaic_Message :=
  (ck (p1.Grid.Wide*p1.Grid.High)).bind fun a4 =>
  bif (decide (a0<a4)) then (bif (decide (((p0.Vals.length:Nat):Int)>0)) then ((D3 a0 ((p0.Vals.length:Nat):Int)).bind fun a6 =>
  (Bn p0.Vals a6).bind fun a3 =>
  (ck a3).bind fun a7 =>
  Co p0 a1 a0 k2 a7) else (Co p0 a1 a0 k2 0)) else (Eh a2 a5 a8 a1)
def C0 (p0:law11_Post) (p1:mosaic_Spec) (a0:mosaic_Radar) (a1:Int) (a2:Int):Nat→(List api_Span)→Int→Option mosaic_Message
  | 0,_,_=>none
  | n+1,a3,a4=>Eg p0 p1 a0 a1 a2 (C0 p0 p1 a0 a1 a2 n) a3 a4
def Cj (F:Nat) (p0:law11_Post) (p1:mosaic_Spec):Option mosaic_Message :=
  (ck p0.Radar).bind fun a1 =>
  (D3 a1 ((p1.Radars.length:Nat):Int)).bind fun a2 =>
  (Bn p1.Radars a2).bind fun a0 =>
  (ck p0.Tilt).bind fun a3 =>
  (D3 a3 4).bind fun a4 =>
  (ck p0.Time).bind fun a5 =>
  (D3 a5 2000).bind fun a6 =>
  C0 p0 p1 a0 a4 a6 F ([]) 0
def E2 (a0:(List mosaic_Message)):Option (List mosaic_Message) :=
  some a0
def E3 (a1:Int) (k2:(Int→(List mosaic_Message)→Option (List mosaic_Message))) (a0:(List mosaic_Message)):Option (List mosaic_Message) :=
  (ck (a1+1)).bind fun a2 =>
  k2 a2 a0
def E0 (F:Nat) (p0:mosaic_Node) (a5:Int) (k2:(Int→(List mosaic_Message)→Option (List mosaic_Message))) (a0:mosaic_Key) (k4:(Int→(List mosaic_Message)→Option (List mosaic_Message))) (a1:Int) (a2:(List mosaic_Message)):Option (List mosaic_Message) :=
  bif (decide (a1<((((lkM p0.kept a0).getD []).length:Nat):Int))) then ((Bn ((lkM p0.kept a0).getD []) a1).bind fun a4 =>
  (As F a4).bind fun a7 =>
  (apd 56 a2 ([(mosaic_Message.mk a0 a7)])).bind fun a3 =>
  (ck (a1+1)).bind fun a6 =>
  k4 a6 a3) else (E3 a5 k2 a2)
def Ci (F:Nat) (p0:mosaic_Node) (a1:Int) (k2:(Int→(List mosaic_Message)→Option (List mosaic_Message))) (a0:mosaic_Key):Nat→Int→(List mosaic_Message)→Option (List mosaic_Message)
  | 0,_,_=>none
  | n+1,a3,a2=>E0 F p0 a1 k2 a0 (Ci F p0 a1 k2 a0 n) a3 a2
def Dz (F:Nat) (p0:mosaic_Node) (a2:(List mosaic_Key)) (k2:(Int→(List mosaic_Message)→Option (List mosaic_Message))) (a0:Int) (a1:(List mosaic_Message)):Option (List mosaic_Message) :=
  bif (decide (a0<((a2.length:Nat):Int))) then ((Bn a2 a0).bind fun a3 =>
  Ci F p0 a0 k2 a3 F 0 a1) else (E2 a1)
def Bu (F:Nat) (p0:mosaic_Node) (a0:(List mosaic_Key)):Nat→Int→(List mosaic_Message)→Option (List mosaic_Message)
  | 0,_,_=>none
  | n+1,a2,a1=>Dz F p0 a0 (Bu F p0 a0 n) a2 a1
def D2 (F:Nat) (p0:mosaic_Node):Option (List mosaic_Message) :=
  (Dk F p0).bind fun a0 =>
  Bu F p0 a0 F 0 ([])
def J9:Option Bool :=
  some false
def Gv (p0:mosaic_Spec) (p1:mosaic_Key) (p2:Int) (k2:(Int→Option Bool)) (a1:Int):Option Bool :=
  bif (decide (a1<((p0.Radars.length:Nat):Int))) then ((Bn p0.Radars a1).bind fun a0 =>
  bif (sEq a0.Site.Name p1.Name) then ((ck (p1.Time+a0.Offset.Hi)).bind fun a2 =>
  (gd (((decide (a2≤p2))==true&&true)) (ck (p1.Time+a0.Offset.Lo)) 0).bind fun a3 =>
  (gd (((decide (a2≤p2))==true&&true)) (ck (a3+p0.Age)) 0).bind fun a4 =>
  some (bif (decide (a2≤p2)) then (decide (p2≤a4)) else false)) else ((ck (a1+1)).bind fun a5 =>
  k2 a5)) else (J9)
def Ey (p0:mosaic_Spec) (p1:mosaic_Key) (p2:Int):Nat→Int→Option Bool
  | 0,_=>none
  | n+1,a0=>Gv p0 p1 p2 (Ey p0 p1 p2 n) a0
def Hm (F:Nat) (p0:mosaic_Spec) (p1:mosaic_Key) (p2:Int):Option Bool :=
  Ey p0 p1 p2 F 0
def C7 (F:Nat) (p0:mosaic_Node):Option Int :=
  (Az F p0).bind fun a0 =>
  bif a0 then (some 0) else (some p0.horizon)
def Bs (F:Nat) (p0:mosaic_Node) (p1:Int):Option (Int×Int×mosaic_Node) :=
  (Az F p0).bind fun a1 =>
  bif a1 then (some (0,1,p0)) else (bif (!(B8 p1 0 4294967296)) then (some (0,3,p0)) else (bif (decide (p1≤p0.horizon)) then (some (0,0,p0)) else ((H0 F p0 p1).bind fun a0 =>
  some (a0.1,0,(mosaic_Node.mk (mosaic_Spec.mk (api_Grid.mk a0.2.spec.Grid.X a0.2.spec.Grid.Y a0.2.spec.Grid.Size a0.2.spec.Grid.Wide a0.2.spec.Grid.High) (api_Span.mk a0.2.spec.Earth.Lo a0.2.spec.Earth.Hi) a0.2.spec.Radars a0.2.spec.Age) a0.2.radars a0.2.horizon a0.2.kept a0.2.count a0.2.looks)))))
def F6 (l:List mosaic_Key):List (mosaic_Key×Bool):=l.foldl (fun B k=>upM B k true) []
def Rz (p0:mosaic_Node) (G:List (mosaic_Key×Bool)) (x:mosaic_Message):Bool:=!((lkM G x.Key).getD false&&((((lkM p0.kept x.Key).getD []).length:Int)==1))
def Cs (F:Nat) (p0:mosaic_Node) (p1:List mosaic_Key):Option (List mosaic_Message×Int) :=
  if 256<p1.length then some ([],9) else (D2 F p0).bind fun l=>if l.length≤1000000 then some (l.filter (Rz p0 (F6 p1)),0) else none
def Ay (F:Nat):Option Bool :=
  (Gz F).bind fun a0 =>
  some a0
def Dq (F:Nat) (a3:((List mosaic_Pixel)×Int×(List (mosaic_where×(List api_Span))))) (a5:((List mosaic_Pixel)×Int×(List (mosaic_where×(List api_Span))))) (k6:(Int→Option Bool)) (a2:Int):Option Bool :=
  bif (decide (a2<((a3.1.length:Nat):Int))) then ((Bn a3.1 a2).bind fun a0 =>
  (Bn a5.1 a2).bind fun a1 =>
  bif (!((((a0.Value_.Lo:Int)==a1.Value_.Lo)&&(((a0.Value_.Hi:Int)==a1.Value_.Hi)&&true))&&(((a0.Key.Name==a1.Key.Name)&&(((a0.Key.Tilt:Int)==a1.Key.Tilt)&&(((a0.Key.Time:Int)==a1.Key.Time)&&true)))&&true))) then (some false) else ((ck (a2+1)).bind fun a4 =>
  k6 a4)) else (Ay F)
def Bp (F:Nat) (a0:((List mosaic_Pixel)×Int×(List (mosaic_where×(List api_Span))))) (a1:((List mosaic_Pixel)×Int×(List (mosaic_where×(List api_Span))))):Nat→Int→Option Bool
  | 0,_=>none
  | n+1,a2=>Dq F a0 a1 (Bp F a0 a1 n) a2
def Cf (F:Nat) (a9:mosaic_Spec) (a5:Int) (a1:(Bool×Int×mosaic_Node)) (aA:((List mosaic_Pixel)×Int×(List (mosaic_where×(List api_Span))))) (a6:Int) (a0:(Int×Int×mosaic_Node)):Option Bool :=
  (ck (a6+a9.Age)).bind fun a7 =>
  (ck (a7+3600)).bind fun a8 =>
  (ck (a8+a5)).bind fun a4 =>
  (B1 F (mosaic_Node.mk (mosaic_Spec.mk (api_Grid.mk a1.2.2.spec.Grid.X a1.2.2.spec.Grid.Y a1.2.2.spec.Grid.Size a1.2.2.spec.Grid.Wide a1.2.2.spec.Grid.High) (api_Span.mk a1.2.2.spec.Earth.Lo a1.2.2.spec.Earth.Hi) a1.2.2.spec.Radars a1.2.2.spec.Age) a0.2.2.radars a1.2.2.horizon a1.2.2.kept a1.2.2.count aA.2.2) a4).bind fun a2 =>
  (B1 F (mosaic_Node.mk (mosaic_Spec.mk (api_Grid.mk a0.2.2.spec.Grid.X a0.2.2.spec.Grid.Y a0.2.2.spec.Grid.Size a0.2.2.spec.Grid.Wide a0.2.2.spec.Grid.High) (api_Span.mk a0.2.2.spec.Earth.Lo a0.2.2.spec.Earth.Hi) a0.2.2.spec.Radars a0.2.2.spec.Age) a0.2.2.radars a0.2.2.horizon a0.2.2.kept a0.2.2.count a0.2.2.looks) a4).bind fun a3 =>
  bif (bif (bif (a2.2.1 != 0) then true else (a3.2.1 != 0)) then true else (((a2.1.length:Nat):Int) != ((a3.1.length:Nat):Int))) then (some false) else (Bp F a2 a3 F 0)
def Dr (F:Nat) (a6:mosaic_Spec) (a4:Int) (a7:(Bool×Int×mosaic_Node)) (a8:((List mosaic_Pixel)×Int×(List (mosaic_where×(List api_Span))))) (a1:Int) (a9:(Int×Int×mosaic_Node)) (a2:((List mosaic_Message)×Int)) (k7:(Int→Option Bool)) (a0:Int):Option Bool :=
  bif (decide (a0<((a2.1.length:Nat):Int))) then ((Bn a2.1 a0).bind fun a3 =>
  bif (decide (a3.Key.Time<a1)) then (some false) else ((ck (a0+1)).bind fun a5 =>
  k7 a5)) else (Cf F a6 a4 a7 a8 a1 a9)
def Bq (F:Nat) (a2:mosaic_Spec) (a0:Int) (a3:(Bool×Int×mosaic_Node)) (a4:((List mosaic_Pixel)×Int×(List (mosaic_where×(List api_Span))))) (a1:Int) (a5:(Int×Int×mosaic_Node)) (a6:((List mosaic_Message)×Int)):Nat→Int→Option Bool
  | 0,_=>none
  | n+1,a7=>Dr F a2 a0 a3 a4 a1 a5 a6 (Bq F a2 a0 a3 a4 a1 a5 a6 n) a7
def Bo (F:Nat) (p4:Int) (aA:mosaic_Spec) (a7:Int) (a1:(Bool×Int×mosaic_Node)) (a5:((List mosaic_Pixel)×Int×(List (mosaic_where×(List api_Span))))):Option Bool :=
  (ck p4).bind fun a8 =>
  (D3 a8 2500).bind fun a4 =>
  (Ng F (mosaic_Node.mk (mosaic_Spec.mk (api_Grid.mk a1.2.2.spec.Grid.X a1.2.2.spec.Grid.Y a1.2.2.spec.Grid.Size a1.2.2.spec.Grid.Wide a1.2.2.spec.Grid.High) (api_Span.mk a1.2.2.spec.Earth.Lo a1.2.2.spec.Earth.Hi) a1.2.2.spec.Radars a1.2.2.spec.Age) a1.2.2.radars a1.2.2.horizon a1.2.2.kept a1.2.2.count a5.2.2)).bind fun a2 =>
  (Bs F (mosaic_Node.mk a2.spec a1.2.2.radars a2.horizon a2.kept a2.count a2.looks) a4).bind fun a0 =>
  (Cs F (mosaic_Node.mk (mosaic_Spec.mk (api_Grid.mk a0.2.2.spec.Grid.X a0.2.2.spec.Grid.Y a0.2.2.spec.Grid.Size a0.2.2.spec.Grid.Wide a0.2.2.spec.Grid.High) (api_Span.mk a0.2.2.spec.Earth.Lo a0.2.2.spec.Earth.Hi) a0.2.2.spec.Radars a0.2.2.spec.Age) a0.2.2.radars a0.2.2.horizon a0.2.2.kept a0.2.2.count a0.2.2.looks) ([]:(List mosaic_Key))).bind fun a3 =>
  (Cs F (mosaic_Node.mk (mosaic_Spec.mk (api_Grid.mk a1.2.2.spec.Grid.X a1.2.2.spec.Grid.Y a1.2.2.spec.Grid.Size a1.2.2.spec.Grid.Wide a1.2.2.spec.Grid.High) (api_Span.mk a1.2.2.spec.Earth.Lo a1.2.2.spec.Earth.Hi) a1.2.2.spec.Radars a1.2.2.spec.Age) a0.2.2.radars a1.2.2.horizon a1.2.2.kept a1.2.2.count a5.2.2) ([]:(List mosaic_Key))).bind fun a6 =>
  (gd (((bif (bif (a0.2.1 != 0) then true else (a3.2 != 0)) then true else (a6.2 != 0))==false&&true)) (ck (a0.1+((a3.1.length:Nat):Int))) 0).bind fun a9 =>
  bif (bif (bif (bif (a0.2.1 != 0) then true else (a3.2 != 0)) then true else (a6.2 != 0)) then true else (a9 != ((a6.1.length:Nat):Int))) then (some false) else ((C7 F (mosaic_Node.mk (mosaic_Spec.mk (api_Grid.mk a0.2.2.spec.Grid.X a0.2.2.spec.Grid.Y a0.2.2.spec.Grid.Size a0.2.2.spec.Grid.Wide a0.2.2.spec.Grid.High) (api_Span.mk a0.2.2.spec.Earth.Lo a0.2.2.spec.Earth.Hi) a0.2.2.spec.Radars a0.2.2.spec.Age) a0.2.2.radars a0.2.2.horizon a0.2.2.kept a0.2.2.count a0.2.2.looks)).bind fun aB =>
  bif (aB != a4) then (some false) else (Bq F aA a7 a1 a5 a4 a0 a3 F 0))
def Dt (F:Nat) (p4:Int) (aC:mosaic_Spec) (aB:Int) (a0:mosaic_Message) (a9:Bool) (a6:((List mosaic_Pixel)×Int×(List (mosaic_where×(List api_Span))))) (aE:(Bool×Int×mosaic_Node)) (a7:((List mosaic_Pixel)×Int×(List (mosaic_where×(List api_Span))))) (k8:(Int→Option Bool)) (a3:Int):Option Bool :=
  bif (decide (a3<((a6.1.length:Nat):Int))) then ((Bn a6.1 a3).bind fun a4 =>
  (gd (((sEq a4.Key.Name a0.Key.Name)==true&&true)) (Bn a6.1 a3) default).bind fun a5 =>
  (gd (((bif (sEq a4.Key.Name a0.Key.Name) then (a5.Key.Tilt==a0.Key.Tilt) else false)==false&&true)) (Bn a7.1 a3) default).bind fun a8 =>
  (gd (((sEq a8.Key.Name a0.Key.Name)==true&&((bif (sEq a4.Key.Name a0.Key.Name) then (a5.Key.Tilt==a0.Key.Tilt) else false)==false&&true))) (Bn a7.1 a3) default).bind fun aA =>
  (Bn a6.1 a3).bind fun a1 =>
  (Bn a7.1 a3).bind fun a2 =>
  (gd (((!a9)==true&&((!(bif (bif (sEq a4.Key.Name a0.Key.Name) then (a5.Key.Tilt==a0.Key.Tilt) else false) then true else (bif (sEq a8.Key.Name a0.Key.Name) then (aA.Key.Tilt==a0.Key.Tilt) else false)))==false&&((!((((a1.Value_.Lo:Int)==a2.Value_.Lo)&&(((a1.Value_.Hi:Int)==a2.Value_.Hi)&&true))&&(((a1.Key.Name==a2.Key.Name)&&(((a1.Key.Tilt:Int)==a2.Key.Tilt)&&(((a1.Key.Time:Int)==a2.Key.Time)&&true)))&&true)))==true&&true)))) (Hm F aC a0.Key aB) default).bind fun aF =>
  bif (bif (!((((a1.Value_.Lo:Int)==a2.Value_.Lo)&&(((a1.Value_.Hi:Int)==a2.Value_.Hi)&&true))&&(((a1.Key.Name==a2.Key.Name)&&(((a1.Key.Tilt:Int)==a2.Key.Tilt)&&(((a1.Key.Time:Int)==a2.Key.Time)&&true)))&&true))) then (bif (!(bif (bif (sEq a4.Key.Name a0.Key.Name) then (a5.Key.Tilt==a0.Key.Tilt) else false) then true else (bif (sEq a8.Key.Name a0.Key.Name) then (aA.Key.Tilt==a0.Key.Tilt) else false))) then true else (bif (!a9) then (!aF) else false)) else false) then (some false) else ((ck (a3+1)).bind fun aD =>
  k8 aD)) else (Bo F p4 aC aB aE a7)
def Bi (F:Nat) (p4:Int) (a2:mosaic_Spec) (a1:Int) (a3:mosaic_Message) (a0:Bool) (a4:((List mosaic_Pixel)×Int×(List (mosaic_where×(List api_Span))))) (a5:(Bool×Int×mosaic_Node)) (a6:((List mosaic_Pixel)×Int×(List (mosaic_where×(List api_Span))))):Nat→Int→Option Bool
  | 0,_=>none
  | n+1,a7=>Dt F p4 a2 a1 a3 a0 a4 a5 a6 (Bi F p4 a2 a1 a3 a0 a4 a5 a6 n) a7
def Ce (F:Nat) (p4:Int) (aK:mosaic_Spec) (a7:Int) (a8:Int) (a9:Int) (aA:Int) (aB:Int) (aC:Int) (aD:Int) (aE:Int) (aF:Int) (a4:(List mosaic_Radar)) (aG:Int) (a5:(List (ByteArray×mosaic_Radar))) (a6:(List (mosaic_Key×(List (List api_Span))))) (aJ:(List (mosaic_where×(List api_Span)))) (a2:Int) (aH:mosaic_Message) (aI:Bool):Option Bool :=
  (B1 F (mosaic_Node.mk (mosaic_Spec.mk (api_Grid.mk a7 a8 aB aC aD) (api_Span.mk aE aF) a4 aG) a5 a9 a6 aA aJ) a2).bind fun a1 =>
  (Bh F (mosaic_Node.mk (mosaic_Spec.mk (api_Grid.mk a7 a8 aB aC aD) (api_Span.mk aE aF) a4 aG) a5 a9 a6 aA a1.2.2) aH).bind fun a0 =>
  (B1 F (mosaic_Node.mk (mosaic_Spec.mk (api_Grid.mk a0.2.2.spec.Grid.X a0.2.2.spec.Grid.Y a0.2.2.spec.Grid.Size a0.2.2.spec.Grid.Wide a0.2.2.spec.Grid.High) (api_Span.mk a0.2.2.spec.Earth.Lo a0.2.2.spec.Earth.Hi) a0.2.2.spec.Radars a0.2.2.spec.Age) a0.2.2.radars a0.2.2.horizon a0.2.2.kept a0.2.2.count a0.2.2.looks) a2).bind fun a3 =>
  bif (bif (bif (bif (a1.2.1 != 0) then true else (a0.2.1 != 0)) then true else (a3.2.1 != 0)) then true else (((a1.1.length:Nat):Int) != ((a3.1.length:Nat):Int))) then (some false) else (Bi F p4 aK a2 aH aI a1 a0 a3 F 0)
def Du (F:Nat) (p4:Int) (aL:mosaic_Spec) (a9:Int) (aA:Int) (aB:Int) (aC:Int) (aD:Int) (aE:Int) (aF:Int) (aG:Int) (aH:Int) (a5:(List mosaic_Radar)) (aI:Int) (a6:(List (ByteArray×mosaic_Radar))) (a7:(List (mosaic_Key×(List (List api_Span))))) (a8:(List (mosaic_where×(List api_Span)))) (aJ:Int) (a0:mosaic_Message) (a4:(List mosaic_Key)) (k9:(Bool→Int→Option Bool)) (a1:Bool) (a3:Int):Option Bool :=
  bif (decide (a3<((a4.length:Nat):Int))) then ((gd ((a1==false&&true)) (Bn a4 a3) default).bind fun a2 =>
  (ck (a3+1)).bind fun aK =>
  k9 (bif a1 then true else ((a2.Name==a0.Key.Name)&&(((a2.Tilt:Int)==a0.Key.Tilt)&&(((a2.Time:Int)==a0.Key.Time)&&true)))) aK) else (Ce F p4 aL a9 aA aB aC aD aE aF aG aH a5 aI a6 a7 a8 aJ a0 a1)
def Br (F:Nat) (p4:Int) (aF:mosaic_Spec) (a4:Int) (a5:Int) (a6:Int) (a7:Int) (a8:Int) (a9:Int) (aA:Int) (aB:Int) (aC:Int) (a0:(List mosaic_Radar)) (aD:Int) (a1:(List (ByteArray×mosaic_Radar))) (a2:(List (mosaic_Key×(List (List api_Span))))) (a3:(List (mosaic_where×(List api_Span)))) (aE:Int) (aG:mosaic_Message) (aH:(List mosaic_Key)):Nat→Bool→Int→Option Bool
  | 0,_,_=>none
  | n+1,aI,aJ=>Du F p4 aF a4 a5 a6 a7 a8 a9 aA aB aC a0 aD a1 a2 a3 aE aG aH (Br F p4 aF a4 a5 a6 a7 a8 a9 aA aB aC a0 aD a1 a2 a3 aE aG aH n) aI aJ
def Cy (F:Nat) (p2:law11_Post) (p3:Int) (p4:Int) (aE:mosaic_Spec) (a4:Int) (a5:Int) (a6:Int) (a7:Int) (a8:Int) (a9:Int) (aA:Int) (aB:Int) (aC:Int) (a0:(List mosaic_Radar)) (aD:Int) (a1:(List (ByteArray×mosaic_Radar))) (a2:(List (mosaic_Key×(List (List api_Span))))) (a3:(List (mosaic_where×(List api_Span)))):Option Bool :=
  (ck p3).bind fun aF =>
  (D3 aF 4000).bind fun aG =>
  (Cj F p2 aE).bind fun aH =>
  (Dk F (mosaic_Node.mk (mosaic_Spec.mk (api_Grid.mk a4 a5 a8 a9 aA) (api_Span.mk aB aC) a0 aD) a1 a6 a2 a7 a3)).bind fun aI =>
  Br F p4 aE a4 a5 a6 a7 a8 a9 aA aB aC a0 aD a1 a2 a3 aG aH aI F false 0
def Dh (F:Nat) (p1:(List law11_Post)) (p2:law11_Post) (p3:Int) (p4:Int) (aG:mosaic_Spec) (aH:(Int→Int→Int→Int→Int→Int→Int→Int→Int→(List mosaic_Radar)→Int→(List (ByteArray×mosaic_Radar))→(List (mosaic_Key×(List (List api_Span))))→(List (mosaic_where×(List api_Span)))→Int→Option Bool)) (a6:Int) (a7:Int) (a8:Int) (a9:Int) (aA:Int) (aB:Int) (aC:Int) (aD:Int) (aE:Int) (a2:(List mosaic_Radar)) (aF:Int) (a3:(List (ByteArray×mosaic_Radar))) (a4:(List (mosaic_Key×(List (List api_Span))))) (a5:(List (mosaic_where×(List api_Span)))) (a1:Int):Option Bool :=
  bif (decide (a1<((p1.length:Nat):Int))) then ((Bn p1 a1).bind fun aI =>
  (Cj F aI aG).bind fun aK =>
  (Bh F (mosaic_Node.mk (mosaic_Spec.mk (api_Grid.mk a6 a7 aA aB aC) (api_Span.mk aD aE) a2 aF) a3 a8 a4 a9 a5) aK).bind fun a0 =>
  (ck (a1+1)).bind fun aJ =>
  aH a0.2.2.spec.Grid.X a0.2.2.spec.Grid.Y a0.2.2.horizon a0.2.2.count a0.2.2.spec.Grid.Size a0.2.2.spec.Grid.Wide a0.2.2.spec.Grid.High a0.2.2.spec.Earth.Lo a0.2.2.spec.Earth.Hi a0.2.2.spec.Radars a0.2.2.spec.Age a0.2.2.radars a0.2.2.kept a0.2.2.looks aJ) else (Cy F p2 p3 p4 aG a6 a7 a8 a9 aA aB aC aD aE a2 aF a3 a4 a5)
def C5 (F:Nat) (p1:(List law11_Post)) (p2:law11_Post) (p3:Int) (p4:Int) (a0:mosaic_Spec):Nat→Int→Int→Int→Int→Int→Int→Int→Int→Int→(List mosaic_Radar)→Int→(List (ByteArray×mosaic_Radar))→(List (mosaic_Key×(List (List api_Span))))→(List (mosaic_where×(List api_Span)))→Int→Option Bool
  | 0,_,_,_,_,_,_,_,_,_,_,_,_,_,_,_=>none
  | n+1,a5,a6,a7,a8,a9,aA,aB,aC,aD,a1,aE,a2,a3,a4,aF=>Dh F p1 p2 p3 p4 a0 (C5 F p1 p2 p3 p4 a0 n) a5 a6 a7 a8 a9 aA aB aC aD a1 aE a2 a3 a4 aF
def F8 (F:Nat) (p2:law11_Post) (p3:Int) (a1:mosaic_Spec):Option Bool :=
  (ck p3).bind fun a0 =>
  (D3 a0 4000).bind fun a2 =>
  (Cj F p2 a1).bind fun a3 =>
  none
def F7 (F:Nat) (p1:(List law11_Post)) (p2:law11_Post) (p3:Int) (a0:mosaic_Spec) (a1:(Option Bool)):Option Bool :=
  bif (decide (0<((p1.length:Nat):Int))) then (none) else (F8 F p2 p3 a0)
def Di (F:Nat) (p1:(List law11_Post)) (p2:law11_Post) (p3:Int) (a0:mosaic_Spec):Nat→Option Bool
  | 0=>none
  | n+1=>F7 F p1 p2 p3 a0 (Di F p1 p2 p3 a0 n)
def E6 (F:Nat) (p0:law11_Net) (p1:(List law11_Post)) (p2:law11_Post) (p3:Int) (p4:Int):Option Bool :=
  bif (decide (((p1.length:Nat):Int)>12)) then ((Gz F).bind fun a3 =>
  some a3) else ((E7 F (law11_Net.mk p0.Wide p0.High ((law11_Station.mk p0.Stations.1.X p0.Stations.1.Y p0.Stations.1.Z p0.Stations.1.Rose p0.Stations.1.Gates p0.Stations.1.Width p0.Stations.1.Lo p0.Stations.1.Hi),(law11_Station.mk p0.Stations.2.1.X p0.Stations.2.1.Y p0.Stations.2.1.Z p0.Stations.2.1.Rose p0.Stations.2.1.Gates p0.Stations.2.1.Width p0.Stations.2.1.Lo p0.Stations.2.1.Hi),(law11_Station.mk p0.Stations.2.2.X p0.Stations.2.2.Y p0.Stations.2.2.Z p0.Stations.2.2.Rose p0.Stations.2.2.Gates p0.Stations.2.2.Width p0.Stations.2.2.Lo p0.Stations.2.2.Hi)) p0.Count p0.Age)).bind fun a1 =>
  (Gm F a1).bind fun a4 =>
  exc a4 (fun a2=>bif (a2 != 0) then (some false) else (Di F p1 p2 p3 a1 F)) (fun a0=>bif (a0.2 != 0) then (some false) else (C5 F p1 p2 p3 p4 a1 F a0.1.spec.Grid.X a0.1.spec.Grid.Y a0.1.horizon a0.1.count a0.1.spec.Grid.Size a0.1.spec.Grid.Wide a0.1.spec.Grid.High a0.1.spec.Earth.Lo a0.1.spec.Earth.Hi a0.1.spec.Radars a0.1.spec.Age a0.1.radars a0.1.kept a0.1.looks 0)))
end Go.Proofs.YtkbjbnkkfifbmaaGreat
