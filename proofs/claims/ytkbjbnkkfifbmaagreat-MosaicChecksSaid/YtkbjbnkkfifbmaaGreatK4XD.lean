import Derived.Test.YtkbjbnkkfifbmaaGreatK4EB
namespace Go.Proofs.YtkbjbnkkfifbmaaGreat
open Go Go.RowKit Go.Eng
set_option maxRecDepth 10000
set_option maxHeartbeats 4000000
set_option linter.unusedVariables false
set_option linter.unusedSimpArgs false
structure api_Grid where
  X:Int
  Y:Int
  Size:Int
  Wide:Int
  High:Int
  deriving Inhabited,DecidableEq
def api_Grid.cells (x:api_Grid):List Value:=[.int .i64 x.X,.int .i64 x.Y,.int .i64 x.Size,.int .i64 x.Wide,.int .i64 x.High]
theorem api_Grid.cells_len (x:api_Grid):(api_Grid.cells x).length=5:=rfl
structure api_Span where
  Lo:Int
  Hi:Int
  deriving Inhabited,DecidableEq
def api_Span.cells (x:api_Span):List Value:=[.int .i64 x.Lo,.int .i64 x.Hi]
theorem api_Span.cells_len (x:api_Span):(api_Span.cells x).length=2:=rfl
structure api_Site where
  Name:ByteArray
  X:Int
  Y:Int
  Z:Int
  Rose:Int
  Gates:Int
  Step:Int
  Width:Int
  deriving Inhabited,DecidableEq
def api_Site.cells (x:api_Site):List Value:=[.string x.Name,.int .i64 x.X,.int .i64 x.Y,.int .i64 x.Z,.int .i64 x.Rose,.int .i64 x.Gates,.int .i64 x.Step,.int .i64 x.Width]
theorem api_Site.cells_len (x:api_Site):(api_Site.cells x).length=8:=rfl
structure mosaic_Radar where
  Site:api_Site
  Offset:api_Span
  deriving Inhabited,DecidableEq
def mosaic_Radar.cells (x:mosaic_Radar):List Value:=[.string x.Site.Name,.int .i64 x.Site.X,.int .i64 x.Site.Y,.int .i64 x.Site.Z,.int .i64 x.Site.Rose,.int .i64 x.Site.Gates,.int .i64 x.Site.Step,.int .i64 x.Site.Width,.int .i64 x.Offset.Lo,.int .i64 x.Offset.Hi]
theorem mosaic_Radar.cells_len (x:mosaic_Radar):(mosaic_Radar.cells x).length=10:=rfl
structure mosaic_Spec where
  Grid:api_Grid
  Earth:api_Span
  Radars:(List mosaic_Radar)
  Age:Int
  deriving Inhabited,DecidableEq
structure mosaic_Key where
  Name:ByteArray
  Tilt:Int
  Time:Int
  deriving Inhabited,DecidableEq
def mosaic_Key.cells (x:mosaic_Key):List Value:=[.string x.Name,.int .i64 x.Tilt,.int .i64 x.Time]
theorem mosaic_Key.cells_len (x:mosaic_Key):(mosaic_Key.cells x).length=3:=rfl
structure mosaic_where where
  name:ByteArray
  tilt:Int
  deriving Inhabited,DecidableEq
def mosaic_where.cells (x:mosaic_where):List Value:=[.string x.name,.int .i64 x.tilt]
theorem mosaic_where.cells_len (x:mosaic_where):(mosaic_where.cells x).length=2:=rfl
structure mosaic_Node where
  spec:mosaic_Spec
  radars:(List (ByteArray×mosaic_Radar))
  horizon:Int
  kept:(List (mosaic_Key×(List (List api_Span))))
  count:Int
  looks:(List (mosaic_where×(List api_Span)))
  deriving Inhabited,DecidableEq
structure mosaic_Message where
  Key:mosaic_Key
  Vals:(List api_Span)
  deriving Inhabited,DecidableEq
structure beam_slant where
  c:Int
  s:Int
  d:Int
  deriving Inhabited,DecidableEq
def beam_slant.cells (x:beam_slant):List Value:=[.int .i64 x.c,.int .i64 x.s,.int .i64 x.d]
theorem beam_slant.cells_len (x:beam_slant):(beam_slant.cells x).length=3:=rfl
structure beam_vector where
  x:Int
  y:Int
  length:Int
  deriving Inhabited,DecidableEq
def beam_vector.cells (x:beam_vector):List Value:=[.int .i64 x.x,.int .i64 x.y,.int .i64 x.length]
theorem beam_vector.cells_len (x:beam_vector):(beam_vector.cells x).length=3:=rfl
structure mosaic_used where
  Key:mosaic_Key
  vals:(List api_Span)
  bands:(List api_Span)
  deriving Inhabited,DecidableEq
structure mosaic_Pixel where
  Value_:api_Span
  Key:mosaic_Key
  deriving Inhabited,DecidableEq
def mosaic_Pixel.cells (x:mosaic_Pixel):List Value:=[.int .i64 x.Value_.Lo,.int .i64 x.Value_.Hi,.string x.Key.Name,.int .i64 x.Key.Tilt,.int .i64 x.Key.Time]
theorem mosaic_Pixel.cells_len (x:mosaic_Pixel):(mosaic_Pixel.cells x).length=5:=rfl
structure ref11_Radar where
  Site:api_Site
  Offset:api_Span
  deriving Inhabited,DecidableEq
def ref11_Radar.cells (x:ref11_Radar):List Value:=[.string x.Site.Name,.int .i64 x.Site.X,.int .i64 x.Site.Y,.int .i64 x.Site.Z,.int .i64 x.Site.Rose,.int .i64 x.Site.Gates,.int .i64 x.Site.Step,.int .i64 x.Site.Width,.int .i64 x.Offset.Lo,.int .i64 x.Offset.Hi]
theorem ref11_Radar.cells_len (x:ref11_Radar):(ref11_Radar.cells x).length=10:=rfl
structure ref11_Spec where
  Grid:api_Grid
  Earth:api_Span
  Radars:(List ref11_Radar)
  Age:Int
  deriving Inhabited,DecidableEq
structure ref11_Key where
  Name:ByteArray
  Tilt:Int
  Time:Int
  deriving Inhabited,DecidableEq
def ref11_Key.cells (x:ref11_Key):List Value:=[.string x.Name,.int .i64 x.Tilt,.int .i64 x.Time]
theorem ref11_Key.cells_len (x:ref11_Key):(ref11_Key.cells x).length=3:=rfl
structure ref11_Message where
  Key:ref11_Key
  Vals:(List api_Span)
  deriving Inhabited,DecidableEq
structure ref11_Node where
  s:ref11_Spec
  h:Int
  l:(List ref11_Message)
  deriving Inhabited,DecidableEq
structure mosaic_Clash where
  Pixel:Int
  A:mosaic_Key
  B:mosaic_Key
  deriving Inhabited,DecidableEq
def mosaic_Clash.cells (x:mosaic_Clash):List Value:=[.int .i64 x.Pixel,.string x.A.Name,.int .i64 x.A.Tilt,.int .i64 x.A.Time,.string x.B.Name,.int .i64 x.B.Tilt,.int .i64 x.B.Time]
theorem mosaic_Clash.cells_len (x:mosaic_Clash):(mosaic_Clash.cells x).length=7:=rfl
structure api_Field where
  Grid:api_Grid
  Vals:(List api_Span)
  deriving Inhabited,DecidableEq
structure ref11_Pixel where
  Value_:api_Span
  Key:ref11_Key
  deriving Inhabited,DecidableEq
def ref11_Pixel.cells (x:ref11_Pixel):List Value:=[.int .i64 x.Value_.Lo,.int .i64 x.Value_.Hi,.string x.Key.Name,.int .i64 x.Key.Tilt,.int .i64 x.Key.Time]
theorem ref11_Pixel.cells_len (x:ref11_Pixel):(ref11_Pixel.cells x).length=5:=rfl
structure ref11_Clash where
  Pixel:Int
  A:ref11_Key
  B:ref11_Key
  deriving Inhabited,DecidableEq
def ref11_Clash.cells (x:ref11_Clash):List Value:=[.int .i64 x.Pixel,.string x.A.Name,.int .i64 x.A.Tilt,.int .i64 x.A.Time,.string x.B.Name,.int .i64 x.B.Tilt,.int .i64 x.B.Time]
theorem ref11_Clash.cells_len (x:ref11_Clash):(ref11_Clash.cells x).length=7:=rfl
abbrev api_Grid.ar (x:api_Grid):Array Value:=#[.int .i64 x.X,.int .i64 x.Y,.int .i64 x.Size,.int .i64 x.Wide,.int .i64 x.High]
abbrev api_Grid.ag (x:api_Grid):Value:=.agg #[.int .i64 x.X,.int .i64 x.Y,.int .i64 x.Size,.int .i64 x.Wide,.int .i64 x.High]
abbrev api_Site.ar (x:api_Site):Array Value:=#[.string x.Name,.int .i64 x.X,.int .i64 x.Y,.int .i64 x.Z,.int .i64 x.Rose,.int .i64 x.Gates,.int .i64 x.Step,.int .i64 x.Width]
abbrev api_Site.ag (x:api_Site):Value:=.agg #[.string x.Name,.int .i64 x.X,.int .i64 x.Y,.int .i64 x.Z,.int .i64 x.Rose,.int .i64 x.Gates,.int .i64 x.Step,.int .i64 x.Width]
abbrev mosaic_Radar.ar (x:mosaic_Radar):Array Value:=#[.string x.Site.Name,.int .i64 x.Site.X,.int .i64 x.Site.Y,.int .i64 x.Site.Z,.int .i64 x.Site.Rose,.int .i64 x.Site.Gates,.int .i64 x.Site.Step,.int .i64 x.Site.Width,.int .i64 x.Offset.Lo,.int .i64 x.Offset.Hi]
abbrev mosaic_Radar.ag (x:mosaic_Radar):Value:=.agg #[.string x.Site.Name,.int .i64 x.Site.X,.int .i64 x.Site.Y,.int .i64 x.Site.Z,.int .i64 x.Site.Rose,.int .i64 x.Site.Gates,.int .i64 x.Site.Step,.int .i64 x.Site.Width,.int .i64 x.Offset.Lo,.int .i64 x.Offset.Hi]
abbrev mosaic_Key.ar (x:mosaic_Key):Array Value:=#[.string x.Name,.int .i64 x.Tilt,.int .i64 x.Time]
abbrev mosaic_Key.ag (x:mosaic_Key):Value:=.agg #[.string x.Name,.int .i64 x.Tilt,.int .i64 x.Time]
abbrev beam_slant.ar (x:beam_slant):Array Value:=#[.int .i64 x.c,.int .i64 x.s,.int .i64 x.d]
abbrev beam_slant.ag (x:beam_slant):Value:=.agg #[.int .i64 x.c,.int .i64 x.s,.int .i64 x.d]
abbrev beam_vector.ar (x:beam_vector):Array Value:=#[.int .i64 x.x,.int .i64 x.y,.int .i64 x.length]
abbrev beam_vector.ag (x:beam_vector):Value:=.agg #[.int .i64 x.x,.int .i64 x.y,.int .i64 x.length]
abbrev mosaic_Pixel.ar (x:mosaic_Pixel):Array Value:=#[.int .i64 x.Value_.Lo,.int .i64 x.Value_.Hi,.string x.Key.Name,.int .i64 x.Key.Tilt,.int .i64 x.Key.Time]
abbrev mosaic_Pixel.ag (x:mosaic_Pixel):Value:=.agg #[.int .i64 x.Value_.Lo,.int .i64 x.Value_.Hi,.string x.Key.Name,.int .i64 x.Key.Tilt,.int .i64 x.Key.Time]
abbrev ref11_Radar.ar (x:ref11_Radar):Array Value:=#[.string x.Site.Name,.int .i64 x.Site.X,.int .i64 x.Site.Y,.int .i64 x.Site.Z,.int .i64 x.Site.Rose,.int .i64 x.Site.Gates,.int .i64 x.Site.Step,.int .i64 x.Site.Width,.int .i64 x.Offset.Lo,.int .i64 x.Offset.Hi]
abbrev ref11_Radar.ag (x:ref11_Radar):Value:=.agg #[.string x.Site.Name,.int .i64 x.Site.X,.int .i64 x.Site.Y,.int .i64 x.Site.Z,.int .i64 x.Site.Rose,.int .i64 x.Site.Gates,.int .i64 x.Site.Step,.int .i64 x.Site.Width,.int .i64 x.Offset.Lo,.int .i64 x.Offset.Hi]
abbrev ref11_Key.ar (x:ref11_Key):Array Value:=#[.string x.Name,.int .i64 x.Tilt,.int .i64 x.Time]
abbrev ref11_Key.ag (x:ref11_Key):Value:=.agg #[.string x.Name,.int .i64 x.Tilt,.int .i64 x.Time]
abbrev mosaic_Node.ax (x:mosaic_Node) (adg1_:Option Addr) (capg2_:Nat) (mg3_:Nat) (mg4_:Nat) (mg5_:Nat):Array Value:=#[.int .i64 x.spec.Grid.X,.int .i64 x.spec.Grid.Y,.int .i64 x.spec.Grid.Size,.int .i64 x.spec.Grid.Wide,.int .i64 x.spec.Grid.High,.int .i64 x.spec.Earth.Lo,.int .i64 x.spec.Earth.Hi,.slice adg1_ x.spec.Radars.length capg2_,.int .i64 x.spec.Age,.map (some mg3_),.int .i64 x.horizon,.map (some mg4_),.int .i64 x.count,.map (some mg5_)]
abbrev ref11_Node.ax (x:ref11_Node) (adg1_:Option Addr) (capg2_:Nat) (adg3_:Option Addr) (capg4_:Nat):Array Value:=#[.int .i64 x.s.Grid.X,.int .i64 x.s.Grid.Y,.int .i64 x.s.Grid.Size,.int .i64 x.s.Grid.Wide,.int .i64 x.s.Grid.High,.int .i64 x.s.Earth.Lo,.int .i64 x.s.Earth.Hi,.slice adg1_ x.s.Radars.length capg2_,.int .i64 x.s.Age,.int .i64 x.h,.slice adg3_ x.l.length capg4_]
abbrev mosaic_Spec.ax (x:mosaic_Spec) (adg1_:Option Addr) (capg2_:Nat):Array Value:=#[.int .i64 x.Grid.X,.int .i64 x.Grid.Y,.int .i64 x.Grid.Size,.int .i64 x.Grid.Wide,.int .i64 x.Grid.High,.int .i64 x.Earth.Lo,.int .i64 x.Earth.Hi,.slice adg1_ x.Radars.length capg2_,.int .i64 x.Age]
abbrev ref11_Spec.ax (x:ref11_Spec) (adg1_:Option Addr) (capg2_:Nat):Array Value:=#[.int .i64 x.Grid.X,.int .i64 x.Grid.Y,.int .i64 x.Grid.Size,.int .i64 x.Grid.Wide,.int .i64 x.Grid.High,.int .i64 x.Earth.Lo,.int .i64 x.Earth.Hi,.slice adg1_ x.Radars.length capg2_,.int .i64 x.Age]
abbrev api_Field.ax (x:api_Field) (adg1_:Option Addr) (capg2_:Nat):Array Value:=#[.int .i64 x.Grid.X,.int .i64 x.Grid.Y,.int .i64 x.Grid.Size,.int .i64 x.Grid.Wide,.int .i64 x.Grid.High,.slice adg1_ x.Vals.length capg2_]
abbrev api_Grid.e0 (x:api_Grid):Bool:=(((x.X:Int)==0)&&(((x.Y:Int)==0)&&(((x.Size:Int)==0)&&(((x.Wide:Int)==0)&&(((x.High:Int)==0)&&true)))))
abbrev api_Site.e0 (x:api_Site):Bool:=((x.Name==ByteArray.empty)&&(((x.X:Int)==0)&&(((x.Y:Int)==0)&&(((x.Z:Int)==0)&&(((x.Rose:Int)==0)&&(((x.Gates:Int)==0)&&(((x.Step:Int)==0)&&(((x.Width:Int)==0)&&true))))))))
abbrev mosaic_Radar.e0 (x:mosaic_Radar):Bool:=((x.Site.Name==ByteArray.empty)&&(((x.Site.X:Int)==0)&&(((x.Site.Y:Int)==0)&&(((x.Site.Z:Int)==0)&&(((x.Site.Rose:Int)==0)&&(((x.Site.Gates:Int)==0)&&(((x.Site.Step:Int)==0)&&(((x.Site.Width:Int)==0)&&(((x.Offset.Lo:Int)==0)&&(((x.Offset.Hi:Int)==0)&&true))))))))))
abbrev mosaic_Key.e0 (x:mosaic_Key):Bool:=((x.Name==ByteArray.empty)&&(((x.Tilt:Int)==0)&&(((x.Time:Int)==0)&&true)))
abbrev beam_slant.e0 (x:beam_slant):Bool:=(((x.c:Int)==0)&&(((x.s:Int)==0)&&(((x.d:Int)==0)&&true)))
abbrev beam_vector.e0 (x:beam_vector):Bool:=(((x.x:Int)==0)&&(((x.y:Int)==0)&&(((x.length:Int)==0)&&true)))
abbrev mosaic_Pixel.e0 (x:mosaic_Pixel):Bool:=(((x.Value_.Lo:Int)==0)&&(((x.Value_.Hi:Int)==0)&&((x.Key.Name==ByteArray.empty)&&(((x.Key.Tilt:Int)==0)&&(((x.Key.Time:Int)==0)&&true)))))
abbrev ref11_Radar.e0 (x:ref11_Radar):Bool:=((x.Site.Name==ByteArray.empty)&&(((x.Site.X:Int)==0)&&(((x.Site.Y:Int)==0)&&(((x.Site.Z:Int)==0)&&(((x.Site.Rose:Int)==0)&&(((x.Site.Gates:Int)==0)&&(((x.Site.Step:Int)==0)&&(((x.Site.Width:Int)==0)&&(((x.Offset.Lo:Int)==0)&&(((x.Offset.Hi:Int)==0)&&true))))))))))
abbrev ref11_Key.e0 (x:ref11_Key):Bool:=((x.Name==ByteArray.empty)&&(((x.Tilt:Int)==0)&&(((x.Time:Int)==0)&&true)))
abbrev mosaic_Clash.e0 (x:mosaic_Clash):Bool:=(((x.Pixel:Int)==0)&&((x.A.Name==ByteArray.empty)&&(((x.A.Tilt:Int)==0)&&(((x.A.Time:Int)==0)&&((x.B.Name==ByteArray.empty)&&(((x.B.Tilt:Int)==0)&&(((x.B.Time:Int)==0)&&true)))))))
abbrev ref11_Pixel.e0 (x:ref11_Pixel):Bool:=(((x.Value_.Lo:Int)==0)&&(((x.Value_.Hi:Int)==0)&&((x.Key.Name==ByteArray.empty)&&(((x.Key.Tilt:Int)==0)&&(((x.Key.Time:Int)==0)&&true)))))
abbrev ref11_Clash.e0 (x:ref11_Clash):Bool:=(((x.Pixel:Int)==0)&&((x.A.Name==ByteArray.empty)&&(((x.A.Tilt:Int)==0)&&(((x.A.Time:Int)==0)&&((x.B.Name==ByteArray.empty)&&(((x.B.Tilt:Int)==0)&&(((x.B.Time:Int)==0)&&true)))))))
abbrev Xt:Array Value:=#[.string ByteArray.empty,.int .i64 0,.int .i64 0,.int .i64 0,.int .i64 0,.int .i64 0,.int .i64 0,.int .i64 0,.int .i64 0,.int .i64 0]
abbrev z37:Array Value:=#[.int .i64 0,.int .i64 0,.int .i64 0,.int .i64 0,.int .i64 0,.int .i64 0,.int .i64 0,.slice none 0 0,.int .i64 0]
abbrev Ul:Array Value:=#[.string ByteArray.empty,.int .i64 0,.int .i64 0,.int .i64 0,.int .i64 0,.int .i64 0,.int .i64 0,.int .i64 0]
abbrev Nu:Array Value:=#[.int .i64 0,.int .i64 0,.int .i64 0,.int .i64 0,.int .i64 0,.slice none 0 0]
abbrev z66:Array Value:=#[.int .i64 0,.int .i64 0,.string ByteArray.empty,.int .i64 0,.int .i64 0]
abbrev z49:Array Value:=#[.string ByteArray.empty,.int .i64 0,.int .i64 0,.slice none 0 0]
def Rp47:Rel (List api_Span):=fun μ cs x=>∃(ad1:Option Addr) (cap2:Nat),cs=[.slice ad1 x.length cap2]∧ArrM μ 2 api_Span.cells ad1 cap2 x
theorem Rp47.mono:Rel.Mono Rp47:=by
  intro μ ν cs x hle h;obtain ⟨ad1,cap2,rfl,f0⟩:=h;exact ⟨ad1,cap2,rfl,f0.mono hle⟩
theorem Rp47.one:Rel.One 1 Rp47:=by
  intro μ cs x h;obtain ⟨ad1,cap2,rfl,f0⟩:=h
  all_goals rfl
def Rp155:Rel mosaic_used:=fun μ cs x=>∃(ad1:Option Addr) (cap2:Nat) (ad3:Option Addr) (cap4:Nat),cs=[.string x.Key.Name,.int .i64 x.Key.Tilt,.int .i64 x.Key.Time,.slice ad1 x.vals.length cap2,.slice ad3 x.bands.length cap4]∧ArrM μ 2 api_Span.cells ad1 cap2 x.vals∧ArrM μ 2 api_Span.cells ad3 cap4 x.bands
theorem Rp155.mono:Rel.Mono Rp155:=by
  intro μ ν cs x hle h;obtain ⟨ad1,cap2,ad3,cap4,rfl,f0,f1⟩:=h;exact ⟨ad1,cap2,ad3,cap4,rfl,f0.mono hle,f1.mono hle⟩
theorem Rp155.one:Rel.One 5 Rp155:=by
  intro μ cs x h;obtain ⟨ad1,cap2,ad3,cap4,rfl,f0,f1⟩:=h
  all_goals rfl
def Rp49:Rel mosaic_Message:=fun μ cs x=>∃(ad1:Option Addr) (cap2:Nat),cs=[.string x.Key.Name,.int .i64 x.Key.Tilt,.int .i64 x.Key.Time,.slice ad1 x.Vals.length cap2]∧ArrM μ 2 api_Span.cells ad1 cap2 x.Vals
theorem Rp49.mono:Rel.Mono Rp49:=by
  intro μ ν cs x hle h;obtain ⟨ad1,cap2,rfl,f0⟩:=h;exact ⟨ad1,cap2,rfl,f0.mono hle⟩
theorem Rp49.one:Rel.One 4 Rp49:=by
  intro μ cs x h;obtain ⟨ad1,cap2,rfl,f0⟩:=h
  all_goals rfl
def Rp122:Rel ref11_Message:=fun μ cs x=>∃(ad1:Option Addr) (cap2:Nat),cs=[.string x.Key.Name,.int .i64 x.Key.Tilt,.int .i64 x.Key.Time,.slice ad1 x.Vals.length cap2]∧ArrM μ 2 api_Span.cells ad1 cap2 x.Vals
theorem Rp122.mono:Rel.Mono Rp122:=by
  intro μ ν cs x hle h;obtain ⟨ad1,cap2,rfl,f0⟩:=h;exact ⟨ad1,cap2,rfl,f0.mono hle⟩
theorem Rp122.one:Rel.One 4 Rp122:=by
  intro μ cs x h;obtain ⟨ad1,cap2,rfl,f0⟩:=h
  all_goals rfl
def Rp167:Rel ref11_Node:=fun μ cs x=>∃(ad1:Option Addr) (cap2:Nat) (ad3:Option Addr) (cap4:Nat) (css5:List (List Value)),cs=[.int .i64 x.s.Grid.X,.int .i64 x.s.Grid.Y,.int .i64 x.s.Grid.Size,.int .i64 x.s.Grid.Wide,.int .i64 x.s.Grid.High,.int .i64 x.s.Earth.Lo,.int .i64 x.s.Earth.Hi,.slice ad1 x.s.Radars.length cap2,.int .i64 x.s.Age,.int .i64 x.h,.slice ad3 x.l.length cap4]∧ArrM μ 10 ref11_Radar.cells ad1 cap2 x.s.Radars∧ArrQ μ 4 Rp122 ad3 cap4 css5 x.l
theorem Rp167.mono:Rel.Mono Rp167:=by
  intro μ ν cs x hle h;obtain ⟨ad1,cap2,ad3,cap4,css5,rfl,f0,f1⟩:=h;exact ⟨ad1,cap2,ad3,cap4,css5,rfl,f0.mono hle,f1.mono Rp122.mono hle⟩
def E8 (p0:ByteArray):Bool:=Xb p0
def or3 (x y z:Int):Int:=if x≠0 then x else if y≠0 then y else z
def Ep (x y:mosaic_Key):Int:=or3 (if x.Time<y.Time then -1 else if y.Time<x.Time then 1 else 0) (if Pw x.Name y.Name then -1 else if Pc x.Name y.Name then 1 else 0) (if x.Tilt<y.Tilt then -1 else if y.Tilt<x.Tilt then 1 else 0)
def Dw (l:List mosaic_Key):List mosaic_Key:=R5 Ep l
def Dd (F:Nat) (p0:mosaic_Node):Option (List mosaic_Key):=if p0.kept.length≤1000000 then some (Dw (p0.kept.map (·.1))) else none
def Ko (F:Nat) (p0:List (List api_Span)) (p1:Int) (p2:List (List api_Span)):Option (List (List api_Span)):=if 0≤p1∧p1≤(p0.length:Int)∧p2.length=1∧p0.length≤1000000 then some (p0.take p1.toNat++p2++p0.drop p1.toNat) else none
def A8 (p0:Int) (p1:Int) (p2:Int):Bool :=
  bif (decide (p1≤p0)) then (decide (p0≤p2)) else false
def Bj (c2:Bool):Int :=
  bif c2 then (3) else (0)
def Av (p0:api_Grid):Int :=
  bif (!(A8 p0.X (-1048576) 1048576)) then (Bj (!(A8 p0.X (-1048576) 1048576))) else (bif (!(A8 p0.Y (-1048576) 1048576)) then (Bj (!(A8 p0.Y (-1048576) 1048576))) else (bif (!(A8 p0.Size 1 10000)) then (Bj (!(A8 p0.Size 1 10000))) else (bif (!(A8 p0.Wide 1 64)) then (Bj (!(A8 p0.Wide 1 64))) else (Bj (!(A8 p0.High 1 64))))))
def Bf (p0:api_Span) (p1:Int) (p2:Int):Bool :=
  bif (bif (decide (p1≤p0.Lo)) then (decide (p0.Lo≤p0.Hi)) else false) then (decide (p0.Hi≤p2)) else false
def B5 (p0:Int) (p1:Int) (p2:Int):Bool :=
  bif (decide (p1≤p0)) then (decide (p0≤p2)) else false
def L4 (F:Nat) (p0:ByteArray):Option Bool :=
  (gd (((bif (!(sEq p0 (⟨#[]⟩:ByteArray))) then (decide (((p0.size:Nat):Int)≤12)) else false)==true&&true)) (N7 p0 (0:Int)) default).bind fun u1 =>
  (gd (((bif (bif (!(sEq p0 (⟨#[]⟩:ByteArray))) then (decide (((p0.size:Nat):Int)≤12)) else false) then (decide (u1≥97)) else false)==true&&true)) (N7 p0 (0:Int)) default).bind fun u2 =>
  some (bif (bif (bif (bif (!(sEq p0 (⟨#[]⟩:ByteArray))) then (decide (((p0.size:Nat):Int)≤12)) else false) then (decide (u1≥97)) else false) then (decide (u2≤122)) else false) then (!(E8 p0)) else false)
def By (c4:Bool):Option Int :=
  bif c4 then (some 3) else (some 0)
def Cc (p0:api_Site) (c3:Bool):Option Int :=
  bif c3 then (some 3) else (bif (!(A8 p0.Rose 1 90)) then (By (!(A8 p0.Rose 1 90))) else (bif (!(A8 p0.Gates 1 200)) then (By (!(A8 p0.Gates 1 200))) else (bif (!(A8 p0.Step 50 2000)) then (By (!(A8 p0.Step 50 2000))) else (By (!(A8 p0.Width 0 8))))))
def beam_CheckSite (F:Nat) (p0:api_Site):Option Int :=
  (L4 F p0.Name).bind fun y2 =>
  bif (!y2) then (some 10) else (bif (!(A8 p0.X (-1048576) 1048576)) then (Cc p0 (!(A8 p0.X (-1048576) 1048576))) else (bif (!(A8 p0.Y (-1048576) 1048576)) then (Cc p0 (!(A8 p0.Y (-1048576) 1048576))) else (Cc p0 (!(A8 p0.Z 0 20000)))))
def Js (a0:(List (ByteArray×Bool))):Option Int :=
  some 0
def Gt (F:Nat) (p0:mosaic_Spec) (k2:((List (ByteArray×Bool))→Int→Option Int)) (a1:(List (ByteArray×Bool))) (a2:Int):Option Int :=
  bif (decide (a2<((p0.Radars.length:Nat):Int))) then ((Bk p0.Radars a2).bind fun a0 =>
  (beam_CheckSite F a0.Site).bind fun a3 =>
  bif (a3 != 0) then (some a3) else (bif ((lkM a1 a0.Site.Name).getD false) then (some 5) else (bif (!(Bf a0.Offset (-3600) 3600)) then (some 3) else ((ck (a2+1)).bind fun a4 =>
  k2 (upM a1 a0.Site.Name true) a4)))) else (Js a1)
def Dx (F:Nat) (p0:mosaic_Spec):Nat→(List (ByteArray×Bool))→Int→Option Int
  | 0,_,_=>none
  | n+1,a0,a1=>Gt F p0 (Dx F p0 n) a0 a1
def Bl (F:Nat) (p0:mosaic_Spec):Option Int :=
  bif ((Av p0.Grid) != 0) then (some (Av p0.Grid)) else (bif (bif (!(Bf p0.Earth 1000000 100000000)) then true else (!(B5 p0.Age 1 86400))) then (some 3) else (bif (((p0.Radars.length:Nat):Int)==0) then (some 18) else (bif (decide (((p0.Radars.length:Nat):Int)>32)) then (some 9) else (Dx F p0 F ([]:List (ByteArray×Bool)) 0))))
def Ax (F:Nat) (p0:(List mosaic_Radar)):Option (List mosaic_Radar) :=
  (apd 88 ([]:List mosaic_Radar) p0).bind fun l5 =>
  some l5
def L0 (p0:mosaic_Spec) (y7:(List mosaic_Radar)) (a0:(List (ByteArray×mosaic_Radar))):Option (Except Int (mosaic_Node×Int)) :=
  some (.ok ((mosaic_Node.mk (mosaic_Spec.mk p0.Grid p0.Earth y7 p0.Age) a0 0 ([]:List (mosaic_Key×(List (List api_Span)))) 0 ([]:List (mosaic_where×(List api_Span)))),0))
def Ji (p0:mosaic_Spec) (y7:(List mosaic_Radar)) (k2:((List (ByteArray×mosaic_Radar))→Int→Option (Except Int (mosaic_Node×Int)))) (a1:(List (ByteArray×mosaic_Radar))) (a0:Int):Option (Except Int (mosaic_Node×Int)) :=
  bif (decide (a0<((y7.length:Nat):Int))) then ((Bk y7 a0).bind fun a2 =>
  (ck (a0+1)).bind fun a3 =>
  k2 (upM a1 a2.Site.Name a2) a3) else (L0 p0 y7 a1)
def Fm (p0:mosaic_Spec) (y7:(List mosaic_Radar)):Nat→(List (ByteArray×mosaic_Radar))→Int→Option (Except Int (mosaic_Node×Int))
  | 0,_,_=>none
  | n+1,a0,a1=>Ji p0 y7 (Fm p0 y7 n) a0 a1
def G1 (F:Nat) (p0:mosaic_Spec):Option (Except Int (mosaic_Node×Int)) :=
  (Bl F p0).bind fun y5 =>
  bif (y5 != 0) then (some (.error y5)) else ((Ax F p0.Radars).bind fun y7 =>
  Fm p0 y7 F ([]:List (ByteArray×mosaic_Radar)) 0)
def B3 (F:Nat) (p0:mosaic_Node):Option Bool :=
  some false
def Ft:Option Int :=
  some 0
def Fs (p1:mosaic_Message) (k2:(Int→Option Int)) (a0:Int):Option Int :=
  bif (decide (a0<((p1.Vals.length:Nat):Int))) then ((Bk p1.Vals a0).bind fun a1 =>
  bif (!(Bf a1 0 1000000)) then (some 3) else ((ck (a0+1)).bind fun a2 =>
  k2 a2)) else (Ft)
def Dr (p1:mosaic_Message):Nat→Int→Option Int
  | 0,_=>none
  | n+1,a0=>Fs p1 (Dr p1 n) a0
def H0 (F:Nat) (p0:mosaic_Node) (p1:mosaic_Message):Option Int :=
  bif (!((lkM p0.radars p1.Key.Name).isSome)) then (some 4) else (bif (bif (!(B5 p1.Key.Tilt 0 256)) then true else (!(B5 p1.Key.Time 0 4294967296))) then (some 3) else ((ck (p0.spec.Grid.Wide*p0.spec.Grid.High)).bind fun a0 =>
  bif (((p1.Vals.length:Nat):Int) != a0) then (some 11) else (Dr p1 F 0)))
def Ky:Option Int :=
  some 0
def Jd (p0:(List Int)) (k2:(Int→Option Int)) (a0:Int):Option Int :=
  bif (decide (a0<((p0.length:Nat):Int))) then ((Bk p0 a0).bind fun a1 =>
  bif (a1 != 0) then (some a1) else ((ck (a0+1)).bind fun a2 =>
  k2 a2)) else (Ky)
def Fi (p0:(List Int)):Nat→Int→Option Int
  | 0,_=>none
  | n+1,a0=>Jd p0 (Fi p0 n) a0
def Ke (F:Nat) (p0:(List Int)):Option Int :=
  Fi p0 F 0
def C1 (p0:Int):Bool :=
  p0 != p0
def Ad (p0:Int) (p1:Int):Int :=
  bif (C1 p0) then (bif (C1 p1) then (0) else (-1)) else (bif (C1 p1) then (1) else (bif (decide (p0<p1)) then (-1) else (bif (decide (p0>p1)) then (1) else (0))))
def J5 (F:Nat) (p0:api_Span) (p1:api_Span):Option Int :=
  (Ke F ([(Ad p0.Lo p1.Lo),(Ad p0.Hi p1.Hi)])).bind fun y4 =>
  some y4
def Ap (p0:(List api_Span)) (p1:(List api_Span)):Option Int :=
  bif (decide (((p0.length:Nat):Int)<((p1.length:Nat):Int))) then (some (-1)) else (some 0)
def Ao (F:Nat) (p0:(List api_Span)) (p1:(List api_Span)) (k2:(Int→Option Int)) (a0:Int):Option Int :=
  bif (decide (a0<((p0.length:Nat):Int))) then ((Bk p0 a0).bind fun a2 =>
  bif (decide (a0≥((p1.length:Nat):Int))) then (some 1) else ((Bk p1 a0).bind fun a3 =>
  (J5 F a2 a3).bind fun a1 =>
  bif (a1 != 0) then (some a1) else ((ck (a0+1)).bind fun a4 =>
  k2 a4))) else (Ap p0 p1)
def Aj (F:Nat) (p0:(List api_Span)) (p1:(List api_Span)):Nat→Int→Option Int
  | 0,_=>none
  | n+1,a0=>Ao F p0 p1 (Aj F p0 p1 n) a0
def Ar (F:Nat) (p0:(List api_Span)) (p1:(List api_Span)):Option Int :=
  Aj F p0 p1 F 0
def Hk (F:Nat) (p0:(List api_Span)) (p1:(List api_Span)):Option Int :=
  (Ar F p0 p1).bind fun y8 =>
  some y8
def At (F:Nat) (p0:(List (List api_Span))) (p1:(List api_Span)) (a0:Int):Option (Int×Bool) :=
  bif (decide (a0<((p0.length:Nat):Int))) then ((Bk p0 a0).bind fun a1 =>
  (Hk F a1 p1).bind fun a2 =>
  some (a0,a2==0)) else (some (a0,false))
def As (F:Nat) (p0:(List (List api_Span))) (p1:(List api_Span)) (k2:(Int→Int→Option (Int×Bool))) (a1:Int) (a0:Int):Option (Int×Bool) :=
  bif (decide (a0<a1)) then ((ck (a0+a1)).bind fun a4 =>
  (ck (Int.fdiv (IntKind.u64.wrap a4) 2)).bind fun a2 =>
  (Bk p0 a2).bind fun a3 =>
  (Hk F a3 p1).bind fun a6 =>
  bif (decide (a6<0)) then ((ck (a2+1)).bind fun a5 =>
  k2 a1 a5) else (k2 a2 a0)) else (At F p0 p1 a0)
def Am (F:Nat) (p0:(List (List api_Span))) (p1:(List api_Span)):Nat→Int→Int→Option (Int×Bool)
  | 0,_,_=>none
  | n+1,a0,a1=>As F p0 p1 (Am F p0 p1 n) a0 a1
def Aw (F:Nat) (p0:(List (List api_Span))) (p1:(List api_Span)):Option (Int×Bool) :=
  Am F p0 p1 F ((p0.length:Nat):Int) 0
def F7 (F:Nat) (p0:mosaic_Node) (p1:mosaic_Message):Option (Int×Bool) :=
  (Aw F ((lkM p0.kept p1.Key).getD []) p1.Vals).bind fun a0 =>
  some (a0.1,a0.2)
def Bw (F:Nat) (p0:(List (List api_Span))):Option (List (List api_Span)) :=
  (apd 24 ([]:List (List api_Span)) p0).bind fun l7 =>
  some l7
def Bb (F:Nat) (p0:(List api_Span)):Option (List api_Span) :=
  (apd 16 ([]:List api_Span) p0).bind fun l5 =>
  some l5
def J9 (F:Nat) (p0:mosaic_Node) (p1:mosaic_Message):Option mosaic_Node :=
  (F7 F p0 p1).bind fun a1 =>
  (Bw F ((lkM p0.kept p1.Key).getD [])).bind fun a2 =>
  (Bb F p1.Vals).bind fun a3 =>
  (Ko F a2 a1.1 ([a3])).bind fun a4 =>
  (ck (p0.count+1)).bind fun a0 =>
  some (mosaic_Node.mk p0.spec p0.radars p0.horizon (upM p0.kept p1.Key a4) a0 p0.looks)
def F1 (F:Nat) (p0:mosaic_Node) (p1:mosaic_Message):Option (Bool×Int×mosaic_Node) :=
  (B3 F p0).bind fun a1 =>
  bif a1 then (some (false,1,p0)) else ((H0 F p0 p1).bind fun a0 =>
  bif (a0 != 0) then (some (false,a0,p0)) else (bif (decide (p1.Key.Time<p0.horizon)) then (some (false,17,p0)) else ((F7 F p0 p1).bind fun a2 =>
  bif a2.2 then (some (false,0,p0)) else (bif (decide (p0.count≥256)) then (some (false,13,p0)) else ((J9 F p0 p1).bind fun a3 =>
  some (true,0,a3))))))
def Cn (F:Nat) (p0:mosaic_Node) (p1:Int):Option Int :=
  (B3 F p0).bind fun a0 =>
  bif a0 then (some 1) else (bif (!(B5 p1 0 4294967296)) then (some 3) else (bif (decide (p1<p0.horizon)) then (some 17) else (some 0)))
def Bc (p0:ByteArray):Bool :=
  !(sEq p0 p0)
def B4 (p0:ByteArray) (p1:ByteArray):Int :=
  bif (Bc p0) then (bif (Bc p1) then (0) else (-1)) else (bif (Bc p1) then (1) else (bif (Pw p0 p1) then (-1) else (bif (Pc p0 p1) then (1) else (0))))
def Ey (F:Nat) (p0:Int):Option beam_slant :=
  (ck (p0*p0)).bind fun x2 =>
  (ck (262144-x2)).bind fun x3 =>
  (ck (1024*p0)).bind fun x4 =>
  (ck (p0*p0)).bind fun x5 =>
  (ck (262144+x5)).bind fun x6 =>
  some (beam_slant.mk x3 x4 x6)
def Jl (F:Nat) (p0:Int) (c0_:api_Site) (c1_:beam_slant):Option Int :=
  (ck (p0*c0_.Step)).bind fun x1 =>
  (ck (x1*c1_.c)).bind fun x2 =>
  (Pu x2 c1_.d).bind fun x3 =>
  some x3
def Lp (a0:Int):Option Int :=
  some a0
def Ln (F:Nat) (p0:api_Site) (p2:Int) (y2:beam_slant) (k2:(Int→Int→Option Int)) (a0:Int) (a2:Int):Option Int :=
  (ck (a2-a0)).bind fun a3 =>
  bif (decide (a3>1)) then ((ck (a0+a2)).bind fun a4 =>
  (Pu a4 2).bind fun a1 =>
  (Jl F a1 p0 y2).bind fun a6 =>
  (Jl F a1 p0 y2).bind fun a7 =>
  (ck (a6*a7)).bind fun a5 =>
  bif (decide (a5≤p2)) then (k2 a1 a2) else (k2 a0 a1)) else (Lp a0)
def K4 (F:Nat) (p0:api_Site) (p2:Int) (y2:beam_slant):Nat→Int→Int→Option Int
  | 0,_,_=>none
  | n+1,a0,a1=>Ln F p0 p2 y2 (K4 F p0 p2 y2 n) a0 a1
def Pk (F:Nat) (p0:api_Site) (p1:Int) (p2:Int):Option Int :=
  (Ey F p1).bind fun y2 =>
  (Jl F p0.Gates p0 y2).bind fun y4 =>
  (ck (y4*y4)).bind fun x5 =>
  bif (decide (p2≥x5)) then (some (-1)) else (K4 F p0 p2 y2 F 0 p0.Gates)
def Kb (F:Nat) (p0:Int) (p1:Int):Option beam_vector :=
  (Th p1 p0).bind fun x2 =>
  (ck (2*p0)).bind fun x3 =>
  (ck (x3*x2)).bind fun x4 =>
  (ck (p0*p0)).bind fun x5 =>
  (ck (x2*x2)).bind fun x6 =>
  (ck (x5-x6)).bind fun x7 =>
  (ck (p0*p0)).bind fun x8 =>
  (ck (x2*x2)).bind fun x9 =>
  (ck (x8+x9)).bind fun a0 =>
  (Pu p1 p0).bind fun a1 =>
  bif (a1==0) then (some (beam_vector.mk x4 x7 a0)) else (bif (a1==1) then (bif (a1==0) then (some (beam_vector.mk x4 x7 a0)) else (some (beam_vector.mk x7 (IntKind.i64.wrap (0-x4)) a0))) else (bif (a1==0) then (some (beam_vector.mk x4 x7 a0)) else (bif (a1==2) then (bif (a1==0) then (some (beam_vector.mk x4 x7 a0)) else (some (beam_vector.mk (IntKind.i64.wrap (0-x4)) (IntKind.i64.wrap (0-x7)) a0))) else (bif (a1==0) then (some (beam_vector.mk x4 x7 a0)) else (bif (a1==3) then (bif (a1==0) then (some (beam_vector.mk x4 x7 a0)) else (some (beam_vector.mk (IntKind.i64.wrap (0-x7)) x4 a0))) else (bif (a1==0) then (some (beam_vector.mk x4 x7 a0)) else (none)))))))
def Hf (F:Nat) (p0:beam_vector) (p1:Int) (p2:Int):Option Bool :=
  (ck (p0.y*p1)).bind fun x2 =>
  (ck (p0.x*p2)).bind fun x3 =>
  some (decide (x2≥x3))
def Mh (p0:Int) (a0:Int) (a1:Int):Option Int :=
  (ck (a0*p0)).bind fun a2 =>
  (ck (a2+a1)).bind fun a3 =>
  some a3
def Me (F:Nat) (p0:Int) (a3:Int) (a4:Int) (a5:Int) (k3:(Int→Int→Option Int)) (a0:Int) (a1:Int):Option Int :=
  (ck (a1-a0)).bind fun a6 =>
  bif (decide (a6>1)) then ((ck (a0+a1)).bind fun a7 =>
  (Pu a7 2).bind fun a2 =>
  (Kb F p0 a2).bind fun a8 =>
  (Hf F a8 a3 a4).bind fun a9 =>
  bif a9 then (k3 a2 a1) else (k3 a0 a2)) else (Mh p0 a5 a0)
def Ks (F:Nat) (p0:Int) (a0:Int) (a1:Int) (a2:Int):Nat→Int→Int→Option Int
  | 0,_,_=>none
  | n+1,a3,a4=>Me F p0 a0 a1 a2 (Ks F p0 a0 a1 a2 n) a3 a4
def Mg (F:Nat) (p0:Int) (a0:Int) (a1:Int) (a2:Int):Option Int :=
  Ks F p0 a0 a1 a2 F 0 p0
def Mf (F:Nat) (p0:Int) (k4:(Int→Int→Int→Option Int)) (a0:Int) (a1:Int) (a2:Int):Option Int :=
  bif (bif (decide (a0<0)) then true else (decide (a1≤0))) then ((ck (a2+1)).bind fun a3 =>
  k4 (IntKind.i64.wrap (0-a1)) a0 a3) else (Mg F p0 a0 a1 a2)
def Kt (F:Nat) (p0:Int):Nat→Int→Int→Int→Option Int
  | 0,_,_,_=>none
  | n+1,a0,a1,a2=>Mf F p0 (Kt F p0 n) a0 a1 a2
def Qg (F:Nat) (p0:Int) (p1:Int) (p2:Int):Option Int :=
  Kt F p0 F p1 p2 0
def Pj (F:Nat) (p0:api_Site) (p1:Int) (p2:Int) (p3:Int):Option (Int×Int×Bool) :=
  (ck (p2-p0.X)).bind fun x2 =>
  (ck (p3-p0.Y)).bind fun x3 =>
  bif (bif (x2==0) then (x3==0) else false) then (some (0,0,true)) else ((ck (x2*x2)).bind fun x4 =>
  (ck (x3*x3)).bind fun x5 =>
  (ck (x4+x5)).bind fun x6 =>
  (Pk F p0 p1 x6).bind fun y7 =>
  bif (decide (y7<0)) then (some (0,0,false)) else ((Qg F p0.Rose x2 x3).bind fun y8 =>
  some (y8,y7,true)))
def Lk (a0:(List Int)):Option ((List Int)×Int) :=
  some (a0,0)
def Ll (a1:Int) (k2:((List Int)→Int→Option ((List Int)×Int))) (a0:(List Int)):Option ((List Int)×Int) :=
  (ck (a1+1)).bind fun a2 =>
  k2 a0 a2
def K1 (a0:(List Int)) (a2:Int) (k4:((List Int)→Int→Option ((List Int)×Int))) (a3:Int):Option ((List Int)×Int) :=
  (apd 8 a0 ([a3])).bind fun a1 =>
  (ck (a2+1)).bind fun a4 =>
  k4 a1 a4
def Lj (F:Nat) (p0:api_Site) (p1:Int) (p2:api_Grid) (a3:Int) (k2:((List Int)→Int→Option ((List Int)×Int))) (k4:((List Int)→Int→Option ((List Int)×Int))) (a1:(List Int)) (a0:Int):Option ((List Int)×Int) :=
  bif (decide (a0<p2.Wide)) then ((ck (a0*p2.Size)).bind fun a4 =>
  (ck (p2.X+a4)).bind fun a5 =>
  (Pu p2.Size 2).bind fun a6 =>
  (ck (a5+a6)).bind fun a7 =>
  (ck (a3*p2.Size)).bind fun a8 =>
  (ck (p2.Y+a8)).bind fun a9 =>
  (Pu p2.Size 2).bind fun aA =>
  (ck (a9+aA)).bind fun aB =>
  (Pj F p0 p1 a7 aB).bind fun a2 =>
  bif a2.2.2 then ((ck (a2.1*p0.Gates)).bind fun aC =>
  (ck (aC+a2.2.1)).bind fun aD =>
  K1 a1 a0 k4 aD) else (K1 a1 a0 k4 (-1))) else (Ll a3 k2 a1)
def K3 (F:Nat) (p0:api_Site) (p1:Int) (p2:api_Grid) (a0:Int) (k2:((List Int)→Int→Option ((List Int)×Int))):Nat→(List Int)→Int→Option ((List Int)×Int)
  | 0,_,_=>none
  | n+1,a1,a2=>Lj F p0 p1 p2 a0 k2 (K3 F p0 p1 p2 a0 k2 n) a1 a2
def Li (F:Nat) (p0:api_Site) (p1:Int) (p2:api_Grid) (k2:((List Int)→Int→Option ((List Int)×Int))) (a0:(List Int)) (a1:Int):Option ((List Int)×Int) :=
  bif (decide (a1<p2.High)) then (K3 F p0 p1 p2 a1 k2 F a0 0) else (Lk a0)
def K2 (F:Nat) (p0:api_Site) (p1:Int) (p2:api_Grid):Nat→(List Int)→Int→Option ((List Int)×Int)
  | 0,_,_=>none
  | n+1,a0,a1=>Li F p0 p1 p2 (K2 F p0 p1 p2 n) a0 a1
def Mw (F:Nat) (p0:api_Site) (p1:Int) (p2:api_Grid):Option ((List Int)×Int) :=
  (beam_CheckSite F p0).bind fun y3 =>
  bif (y3 != 0) then (some (([]:(List Int)),y3)) else (bif ((Av p2) != 0) then (some (([]:(List Int)),(Av p2))) else (bif (!(A8 p1 0 256)) then (some (([]:(List Int)),3)) else ((ck (p2.Wide*p2.High)).bind fun x4 =>
  (mk0 8 x4).bind fun c6 =>
  K2 F p0 p1 p2 F ([]:List Int) 0)))
def Fv (p0:api_Span):Bool :=
  bif (bif (decide (1000000≤p0.Lo)) then (decide (p0.Lo≤p0.Hi)) else false) then (decide (p0.Hi≤100000000)) else false
def L5 (F:Nat) (p0:Int) (p1:Int):Option Int :=
  (Pu p0 p1).bind fun x1 =>
  (ck (x1*p1)).bind fun x2 =>
  bif (decide (x2>p0)) then ((ck (x1-1)).bind fun x3 =>
  some x3) else (some x1)
def Nz (F:Nat) (p0:Int) (p1:Int):Option Int :=
  (Pu p0 p1).bind fun x1 =>
  (ck (x1*p1)).bind fun x2 =>
  bif (decide (x2<p0)) then ((ck (x1+1)).bind fun x3 =>
  some x3) else (some x1)
def Hw (F:Nat) (p0:api_Site) (p1:Int) (p2:Int):Option Int :=
  (Ey F p1).bind fun y2 =>
  (ck (2*p2)).bind fun x4 =>
  (ck (x4+1)).bind fun x5 =>
  (ck (x5*p0.Step)).bind fun x6 =>
  (ck (x6*y2.c)).bind fun x7 =>
  (ck (2*y2.d)).bind fun x8 =>
  (L5 F x7 x8).bind fun y9 =>
  some y9
def Jp (F:Nat) (p0:api_Site) (p1:Int) (p2:Int) (p3:Int):Option Int :=
  (Ey F p1).bind fun y2 =>
  (Hw F p0 p1 p2).bind fun y5 =>
  (ck (2*p2)).bind fun x6 =>
  (ck (x6+1)).bind fun x7 =>
  (ck (x7*p0.Step)).bind fun x8 =>
  (ck (x8*y2.s)).bind fun x9 =>
  (ck (2*y2.d)).bind fun a0 =>
  (ck (y5*y5)).bind fun a1 =>
  (ck (2*p3)).bind fun a2 =>
  (L5 F x9 a0).bind fun a5 =>
  (ck (p0.Z+a5)).bind fun a3 =>
  (L5 F a1 a2).bind fun a6 =>
  (ck (a3+a6)).bind fun a4 =>
  some a4
def J0 (F:Nat) (p0:api_Site) (p1:Int) (p2:Int):Option Int :=
  (Ey F p1).bind fun y2 =>
  (ck (2*p2)).bind fun x4 =>
  (ck (x4+1)).bind fun x5 =>
  (ck (x5*p0.Step)).bind fun x6 =>
  (ck (x6*y2.c)).bind fun x7 =>
  (ck (2*y2.d)).bind fun x8 =>
  (Nz F x7 x8).bind fun y9 =>
  some y9
def Jq (F:Nat) (p0:api_Site) (p1:Int) (p2:Int) (p3:Int):Option Int :=
  (Ey F p1).bind fun y2 =>
  (J0 F p0 p1 p2).bind fun y5 =>
  (ck (2*p2)).bind fun x6 =>
  (ck (x6+1)).bind fun x7 =>
  (ck (x7*p0.Step)).bind fun x8 =>
  (ck (x8*y2.s)).bind fun x9 =>
  (ck (2*y2.d)).bind fun a0 =>
  (ck (y5*y5)).bind fun a1 =>
  (ck (2*p3)).bind fun a2 =>
  (Nz F x9 a0).bind fun a5 =>
  (ck (p0.Z+a5)).bind fun a3 =>
  (Nz F a1 a2).bind fun a6 =>
  (ck (a3+a6)).bind fun a4 =>
  some a4
def Pi (F:Nat) (p0:api_Site) (p1:Int) (p2:api_Span) (p3:Int):Option (api_Span×Int) :=
  (beam_CheckSite F p0).bind fun y4 =>
  bif (y4 != 0) then (some ((api_Span.mk 0 0),y4)) else ((gd (((bif (!(A8 p1 0 256)) then true else (!(Fv p2)))==false&&true)) (ck (p0.Gates-1)) 0).bind fun x5 =>
  bif (bif (bif (!(A8 p1 0 256)) then true else (!(Fv p2))) then true else (!(A8 p3 0 x5))) then (some ((api_Span.mk 0 0),3)) else ((ck (p1-p0.Width)).bind fun x6 =>
  (ck (p1+p0.Width)).bind fun x7 =>
  (Jp F p0 x6 p3 p2.Hi).bind fun y9 =>
  (Jq F p0 x7 p3 p2.Lo).bind fun a0 =>
  some ((api_Span.mk y9 a0),0)))
def G5 (p0:mosaic_Node) (p1:mosaic_Key) (a0:(List api_Span)):Option ((List api_Span)×(List (mosaic_where×(List api_Span)))) :=
  some (a0,(upM p0.looks (mosaic_where.mk p1.Name p1.Tilt) a0))
def E4 (a0:(List api_Span)) (a2:Int) (k2:((List api_Span)→Int→Option ((List api_Span)×(List (mosaic_where×(List api_Span)))))) (a3:Int) (a4:Int):Option ((List api_Span)×(List (mosaic_where×(List api_Span)))) :=
  (apd 16 a0 ([(api_Span.mk a3 a4)])).bind fun a1 =>
  (ck (a2+1)).bind fun a5 =>
  k2 a1 a5
def G4 (F:Nat) (p0:mosaic_Node) (p1:mosaic_Key) (a4:((List Int)×Int)) (k2:((List api_Span)→Int→Option ((List api_Span)×(List (mosaic_where×(List api_Span)))))) (a1:(List api_Span)) (a0:Int):Option ((List api_Span)×(List (mosaic_where×(List api_Span)))) :=
  bif (decide (a0<((a4.1.length:Nat):Int))) then ((Bk a4.1 a0).bind fun a2 =>
  bif (decide (a2≥0)) then ((Th a2 ((((lkM p0.radars p1.Name).getD (mosaic_Radar.mk (api_Site.mk ByteArray.empty 0 0 0 0 0 0 0) (api_Span.mk 0 0))).Site).Gates)).bind fun a5 =>
  (Pi F (api_Site.mk ((((lkM p0.radars p1.Name).getD (mosaic_Radar.mk (api_Site.mk ByteArray.empty 0 0 0 0 0 0 0) (api_Span.mk 0 0))).Site).Name) ((((lkM p0.radars p1.Name).getD (mosaic_Radar.mk (api_Site.mk ByteArray.empty 0 0 0 0 0 0 0) (api_Span.mk 0 0))).Site).X) ((((lkM p0.radars p1.Name).getD (mosaic_Radar.mk (api_Site.mk ByteArray.empty 0 0 0 0 0 0 0) (api_Span.mk 0 0))).Site).Y) ((((lkM p0.radars p1.Name).getD (mosaic_Radar.mk (api_Site.mk ByteArray.empty 0 0 0 0 0 0 0) (api_Span.mk 0 0))).Site).Z) ((((lkM p0.radars p1.Name).getD (mosaic_Radar.mk (api_Site.mk ByteArray.empty 0 0 0 0 0 0 0) (api_Span.mk 0 0))).Site).Rose) ((((lkM p0.radars p1.Name).getD (mosaic_Radar.mk (api_Site.mk ByteArray.empty 0 0 0 0 0 0 0) (api_Span.mk 0 0))).Site).Gates) ((((lkM p0.radars p1.Name).getD (mosaic_Radar.mk (api_Site.mk ByteArray.empty 0 0 0 0 0 0 0) (api_Span.mk 0 0))).Site).Step) ((((lkM p0.radars p1.Name).getD (mosaic_Radar.mk (api_Site.mk ByteArray.empty 0 0 0 0 0 0 0) (api_Span.mk 0 0))).Site).Width)) p1.Tilt p0.spec.Earth a5).bind fun a3 =>
  E4 a1 a0 k2 a3.1.Lo a3.1.Hi) else (E4 a1 a0 k2 1 0)) else (G5 p0 p1 a1)
def E5 (F:Nat) (p0:mosaic_Node) (p1:mosaic_Key) (a0:((List Int)×Int)):Nat→(List api_Span)→Int→Option ((List api_Span)×(List (mosaic_where×(List api_Span))))
  | 0,_,_=>none
  | n+1,a1,a2=>G4 F p0 p1 a0 (E5 F p0 p1 a0 n) a1 a2
def Hm (F:Nat) (p0:mosaic_Node) (p1:mosaic_Key):Option ((List api_Span)×(List (mosaic_where×(List api_Span)))) :=
  bif ((lkM p0.looks (mosaic_where.mk p1.Name p1.Tilt)).isSome) then (some (((lkM p0.looks (mosaic_where.mk p1.Name p1.Tilt)).getD []),p0.looks)) else ((Mw F (api_Site.mk ((((lkM p0.radars p1.Name).getD (mosaic_Radar.mk (api_Site.mk ByteArray.empty 0 0 0 0 0 0 0) (api_Span.mk 0 0))).Site).Name) ((((lkM p0.radars p1.Name).getD (mosaic_Radar.mk (api_Site.mk ByteArray.empty 0 0 0 0 0 0 0) (api_Span.mk 0 0))).Site).X) ((((lkM p0.radars p1.Name).getD (mosaic_Radar.mk (api_Site.mk ByteArray.empty 0 0 0 0 0 0 0) (api_Span.mk 0 0))).Site).Y) ((((lkM p0.radars p1.Name).getD (mosaic_Radar.mk (api_Site.mk ByteArray.empty 0 0 0 0 0 0 0) (api_Span.mk 0 0))).Site).Z) ((((lkM p0.radars p1.Name).getD (mosaic_Radar.mk (api_Site.mk ByteArray.empty 0 0 0 0 0 0 0) (api_Span.mk 0 0))).Site).Rose) ((((lkM p0.radars p1.Name).getD (mosaic_Radar.mk (api_Site.mk ByteArray.empty 0 0 0 0 0 0 0) (api_Span.mk 0 0))).Site).Gates) ((((lkM p0.radars p1.Name).getD (mosaic_Radar.mk (api_Site.mk ByteArray.empty 0 0 0 0 0 0 0) (api_Span.mk 0 0))).Site).Step) ((((lkM p0.radars p1.Name).getD (mosaic_Radar.mk (api_Site.mk ByteArray.empty 0 0 0 0 0 0 0) (api_Span.mk 0 0))).Site).Width)) p1.Tilt p0.spec.Grid).bind fun a0 =>
  E5 F p0 p1 a0 F ([]) 0)
def Gz (a0:(List (mosaic_where×(List api_Span)))) (a1:(List mosaic_used)):Option ((List mosaic_used)×(List (mosaic_where×(List api_Span)))) :=
  some (a1,a0)
def F5 (a2:Int) (k3:((List (mosaic_where×(List api_Span)))→Int→(List mosaic_used)→Option ((List mosaic_used)×(List (mosaic_where×(List api_Span)))))) (a0:(List (mosaic_where×(List api_Span)))) (a1:(List mosaic_used)):Option ((List mosaic_used)×(List (mosaic_where×(List api_Span)))) :=
  (ck (a2+1)).bind fun a3 =>
  k3 a0 a3 a1
def F2 (F:Nat) (p0:mosaic_Node) (a4:(List (mosaic_where×mosaic_Key))) (a5:(List mosaic_Key)) (k3:((List (mosaic_where×(List api_Span)))→Int→(List mosaic_used)→Option ((List mosaic_used)×(List (mosaic_where×(List api_Span)))))) (a2:(List (mosaic_where×(List api_Span)))) (a1:Int) (a3:(List mosaic_used)):Option ((List mosaic_used)×(List (mosaic_where×(List api_Span)))) :=
  bif (decide (a1<((a5.length:Nat):Int))) then ((Bk a5 a1).bind fun a0 =>
  bif (((((lkM a4 (mosaic_where.mk a0.Name a0.Tilt)).getD (mosaic_Key.mk ByteArray.empty 0 0)).Name)==a0.Name)&&(((((lkM a4 (mosaic_where.mk a0.Name a0.Tilt)).getD (mosaic_Key.mk ByteArray.empty 0 0)).Tilt:Int)==a0.Tilt)&&(((((lkM a4 (mosaic_where.mk a0.Name a0.Tilt)).getD (mosaic_Key.mk ByteArray.empty 0 0)).Time:Int)==a0.Time)&&true))) then ((Bk ((lkM p0.kept a0).getD []) 0).bind fun a8 =>
  (Hm F (mosaic_Node.mk p0.spec p0.radars p0.horizon p0.kept p0.count a2) a0).bind fun a6 =>
  (apd 80 a3 ([(mosaic_used.mk a0 a8 a6.1)])).bind fun a7 =>
  F5 a1 k3 a6.2 a7) else (F5 a1 k3 a2 a3)) else (Gz a2 a3)
def Dk (F:Nat) (p0:mosaic_Node) (a0:(List (mosaic_where×mosaic_Key))) (a1:(List mosaic_Key)):Nat→(List (mosaic_where×(List api_Span)))→Int→(List mosaic_used)→Option ((List mosaic_used)×(List (mosaic_where×(List api_Span))))
  | 0,_,_,_=>none
  | n+1,a2,a4,a3=>F2 F p0 a0 a1 (Dk F p0 a0 a1 n) a2 a4 a3
def F4 (F:Nat) (p0:mosaic_Node) (a0:(List (mosaic_where×mosaic_Key))):Option ((List mosaic_used)×(List (mosaic_where×(List api_Span)))) :=
  (Dd F p0).bind fun a1 =>
  Dk F p0 a0 a1 F p0.looks 0 ([])
def F6 (a1:Int) (k5:((List (mosaic_where×mosaic_Key))→Int→Option ((List mosaic_used)×(List (mosaic_where×(List api_Span)))))) (a0:(List (mosaic_where×mosaic_Key))):Option ((List mosaic_used)×(List (mosaic_where×(List api_Span)))) :=
  (ck (a1+1)).bind fun a2 =>
  k5 a0 a2
def F3 (F:Nat) (p0:mosaic_Node) (p1:Int) (a4:(List mosaic_Key)) (k5:((List (mosaic_where×mosaic_Key))→Int→Option ((List mosaic_used)×(List (mosaic_where×(List api_Span)))))) (a2:(List (mosaic_where×mosaic_Key))) (a1:Int):Option ((List mosaic_used)×(List (mosaic_where×(List api_Span)))) :=
  bif (decide (a1<((a4.length:Nat):Int))) then ((Bk a4 a1).bind fun a0 =>
  (gd (((((((lkM p0.kept a0).getD []).length:Nat):Int)==1)==true&&true)) (ck (a0.Time+((((lkM p0.radars a0.Name).getD (mosaic_Radar.mk (api_Site.mk ByteArray.empty 0 0 0 0 0 0 0) (api_Span.mk 0 0))).Offset).Hi))) 0).bind fun a3 =>
  (gd (((bif (((((lkM p0.kept a0).getD []).length:Nat):Int)==1) then (decide (a3≤p1)) else false)==true&&true)) (ck (p1-a0.Time)) 0).bind fun a5 =>
  (gd (((bif (((((lkM p0.kept a0).getD []).length:Nat):Int)==1) then (decide (a3≤p1)) else false)==true&&true)) (ck (a5-((((lkM p0.radars a0.Name).getD (mosaic_Radar.mk (api_Site.mk ByteArray.empty 0 0 0 0 0 0 0) (api_Span.mk 0 0))).Offset).Lo))) 0).bind fun a6 =>
  bif (bif (bif (((((lkM p0.kept a0).getD []).length:Nat):Int)==1) then (decide (a3≤p1)) else false) then (decide (a6≤p0.spec.Age)) else false) then (F6 a1 k5 (upM a2 (mosaic_where.mk a0.Name a0.Tilt) a0)) else (F6 a1 k5 a2)) else (F4 F p0 a2)
def Dl (F:Nat) (p0:mosaic_Node) (p1:Int) (a0:(List mosaic_Key)):Nat→(List (mosaic_where×mosaic_Key))→Int→Option ((List mosaic_used)×(List (mosaic_where×(List api_Span))))
  | 0,_,_=>none
  | n+1,a1,a2=>F3 F p0 p1 a0 (Dl F p0 p1 a0 n) a1 a2
def Dy (F:Nat) (p0:mosaic_Node) (p1:Int):Option ((List mosaic_used)×(List (mosaic_where×(List api_Span)))) :=
  (Dd F p0).bind fun a0 =>
  Dl F p0 p1 a0 F ([]:List (mosaic_where×mosaic_Key)) 0
def Jn (p0:api_Span):Bool :=
  decide (p0.Lo≤p0.Hi)
def Ef (a1:((List mosaic_used)×(List (mosaic_where×(List api_Span))))) (a0:(List mosaic_Pixel)):Option ((List mosaic_Pixel)×Int×(List (mosaic_where×(List api_Span)))) :=
  some (a0,0,a1.2)
def Eg (a1:Int) (k2:(Int→(List mosaic_Pixel)→Option ((List mosaic_Pixel)×Int×(List (mosaic_where×(List api_Span)))))) (a0:(List mosaic_Pixel)):Option ((List mosaic_Pixel)×Int×(List (mosaic_where×(List api_Span)))) :=
  (ck (a1+1)).bind fun a2 =>
  k2 a2 a0
def Ci (a3:Int) (a0:(List mosaic_Pixel)) (k2:(Int→(List mosaic_Pixel)→Option ((List mosaic_Pixel)×Int×(List (mosaic_where×(List api_Span)))))) (a4:Int) (a5:Int) (a2:ByteArray) (a6:Int) (a7:Int):Option ((List mosaic_Pixel)×Int×(List (mosaic_where×(List api_Span)))) :=
  (apd 48 a0 ([(mosaic_Pixel.mk (api_Span.mk a4 a5) (mosaic_Key.mk a2 a6 a7))])).bind fun a1 =>
  Eg a3 k2 a1
def Bx (a5:((List mosaic_used)×(List (mosaic_where×(List api_Span))))) (a1:Int) (a2:(List mosaic_Pixel)) (k2:(Int→(List mosaic_Pixel)→Option ((List mosaic_Pixel)×Int×(List (mosaic_where×(List api_Span)))))) (a4:Int):Option ((List mosaic_Pixel)×Int×(List (mosaic_where×(List api_Span)))) :=
  bif (decide (a4<0)) then (Ci a1 a2 k2 0 1000000 ByteArray.empty 0 0) else ((Bk a5.1 a4).bind fun a0 =>
  (Bk a0.vals a1).bind fun a3 =>
  Ci a1 a2 k2 a3.Lo a3.Hi a0.Key.Name a0.Key.Tilt a0.Key.Time)
def Bg (a0:Int) (k6:(Int→Int→Option ((List mosaic_Pixel)×Int×(List (mosaic_where×(List api_Span)))))) (a1:Int):Option ((List mosaic_Pixel)×Int×(List (mosaic_where×(List api_Span)))) :=
  (ck (a0+1)).bind fun a2 =>
  k6 a1 a2
def Ee (F:Nat) (a5:((List mosaic_used)×(List (mosaic_where×(List api_Span))))) (a2:Int) (a6:(List mosaic_Pixel)) (k2:(Int→(List mosaic_Pixel)→Option ((List mosaic_Pixel)×Int×(List (mosaic_where×(List api_Span)))))) (k6:(Int→Int→Option ((List mosaic_Pixel)×Int×(List (mosaic_where×(List api_Span)))))) (a4:Int) (a0:Int):Option ((List mosaic_Pixel)×Int×(List (mosaic_where×(List api_Span)))) :=
  bif (decide (a0<((a5.1.length:Nat):Int))) then ((Bk a5.1 a0).bind fun a1 =>
  (Bk a1.bands a2).bind fun a7 =>
  bif (!(Jn a7)) then (Bg a0 k6 a4) else (bif (decide (a4<0)) then (Bg a0 k6 a0) else ((Bk a5.1 a4).bind fun a3 =>
  (Bk a1.bands a2).bind fun a8 =>
  (Bk a3.bands a2).bind fun a9 =>
  (Bk a1.bands a2).bind fun aA =>
  (Bk a3.bands a2).bind fun aB =>
  (Ke F ([(Ad a8.Hi a9.Hi),(Ad aA.Lo aB.Lo),(Ad a3.Key.Time a1.Key.Time),(B4 a1.Key.Name a3.Key.Name),(Ad a1.Key.Tilt a3.Key.Tilt)])).bind fun aC =>
  bif (decide (aC<0)) then (Bg a0 k6 a0) else (Bg a0 k6 a4)))) else (Bx a5 a2 a6 k2 a4)
def Bh (F:Nat) (a2:((List mosaic_used)×(List (mosaic_where×(List api_Span))))) (a1:Int) (a0:(List mosaic_Pixel)) (k2:(Int→(List mosaic_Pixel)→Option ((List mosaic_Pixel)×Int×(List (mosaic_where×(List api_Span)))))):Nat→Int→Int→Option ((List mosaic_Pixel)×Int×(List (mosaic_where×(List api_Span))))
  | 0,_,_=>none
  | n+1,a3,a4=>Ee F a2 a1 a0 k2 (Bh F a2 a1 a0 k2 n) a3 a4
def Ed (F:Nat) (a2:((List mosaic_used)×(List (mosaic_where×(List api_Span))))) (a3:Int) (k2:(Int→(List mosaic_Pixel)→Option ((List mosaic_Pixel)×Int×(List (mosaic_where×(List api_Span)))))) (a1:Int) (a0:(List mosaic_Pixel)):Option ((List mosaic_Pixel)×Int×(List (mosaic_where×(List api_Span)))) :=
  bif (decide (a1<a3)) then (Bh F a2 a1 a0 k2 F (-1) 0) else (Ef a2 a0)
def B2 (F:Nat) (a1:((List mosaic_used)×(List (mosaic_where×(List api_Span))))) (a0:Int):Nat→Int→(List mosaic_Pixel)→Option ((List mosaic_Pixel)×Int×(List (mosaic_where×(List api_Span))))
  | 0,_,_=>none
  | n+1,a3,a2=>Ed F a1 a0 (B2 F a1 a0 n) a3 a2
def Cm (F:Nat) (p0:mosaic_Node) (p1:Int):Option ((List mosaic_Pixel)×Int×(List (mosaic_where×(List api_Span)))) :=
  (Cn F p0 p1).bind fun a0 =>
  bif (a0 != 0) then (some (([]:(List mosaic_Pixel)),a0,p0.looks)) else ((Dy F p0 p1).bind fun a2 =>
  (ck (p0.spec.Grid.Wide*p0.spec.Grid.High)).bind fun a1 =>
  B2 F a2 a1 F 0 ([]))
def Ab (p0:Int):api_Span :=
  (api_Span.mk p0 p0)
def law11_S:mosaic_Spec :=
  (mosaic_Spec.mk (api_Grid.mk (-2000) (-1000) 1000 4 2) (Ab 8000000) ([(mosaic_Radar.mk (api_Site.mk (⟨#[97]⟩:ByteArray) (-1500) (-500) 100 1 3 1000 0) (api_Span.mk 0 0)),(mosaic_Radar.mk (api_Site.mk (⟨#[98]⟩:ByteArray) 1500 (-500) 100 1 3 1000 0) (api_Span.mk 5 10))]) 600)
def J4 (p0:ByteArray) (p1:Int) (a0:(List api_Span)):Option mosaic_Message :=
  some (mosaic_Message.mk (mosaic_Key.mk p0 0 p1) a0)
def J3 (p0:ByteArray) (p1:Int) (p2:Int) (k2:((List api_Span)→Int→Option mosaic_Message)) (a0:(List api_Span)) (a1:Int):Option mosaic_Message :=
  bif (decide (a1<8)) then ((apd 16 a0 ([(Ab p2)])).bind fun a2 =>
  (ck (a1+1)).bind fun a3 =>
  k2 a2 a3) else (J4 p0 p1 a0)
def Gc (p0:ByteArray) (p1:Int) (p2:Int):Nat→(List api_Span)→Int→Option mosaic_Message
  | 0,_,_=>none
  | n+1,a0,a1=>J3 p0 p1 p2 (Gc p0 p1 p2 n) a0 a1
def Jf (F:Nat) (p0:ByteArray) (p1:Int) (p2:Int):Option mosaic_Message :=
  Gc p0 p1 p2 F ([]) 0
def Cr (F:Nat):Option Bool :=
  (G1 F (mosaic_Spec.mk (api_Grid.mk law11_S.Grid.X law11_S.Grid.Y law11_S.Grid.Size law11_S.Grid.Wide law11_S.Grid.High) (api_Span.mk law11_S.Earth.Lo law11_S.Earth.Hi) law11_S.Radars law11_S.Age)).bind fun y7 =>
  exc y7 (fun a7=>bif (a7 != 0) then (some false) else (none)) (fun a2=>bif (a2.2 != 0) then (some false) else ((Jf F (⟨#[97]⟩:ByteArray) 100 5).bind fun a8 =>
  (F1 F (mosaic_Node.mk (mosaic_Spec.mk (api_Grid.mk a2.1.spec.Grid.X a2.1.spec.Grid.Y a2.1.spec.Grid.Size a2.1.spec.Grid.Wide a2.1.spec.Grid.High) (api_Span.mk a2.1.spec.Earth.Lo a2.1.spec.Earth.Hi) a2.1.spec.Radars a2.1.spec.Age) a2.1.radars a2.1.horizon a2.1.kept a2.1.count a2.1.looks) a8).bind fun a0 =>
  (Jf F (⟨#[98]⟩:ByteArray) 100 7).bind fun a9 =>
  (F1 F (mosaic_Node.mk (mosaic_Spec.mk (api_Grid.mk a0.2.2.spec.Grid.X a0.2.2.spec.Grid.Y a0.2.2.spec.Grid.Size a0.2.2.spec.Grid.Wide a0.2.2.spec.Grid.High) (api_Span.mk a0.2.2.spec.Earth.Lo a0.2.2.spec.Earth.Hi) a0.2.2.spec.Radars a0.2.2.spec.Age) a0.2.2.radars a0.2.2.horizon a0.2.2.kept a0.2.2.count a0.2.2.looks) a9).bind fun a1 =>
  (Cm F (mosaic_Node.mk (mosaic_Spec.mk (api_Grid.mk a1.2.2.spec.Grid.X a1.2.2.spec.Grid.Y a1.2.2.spec.Grid.Size a1.2.2.spec.Grid.Wide a1.2.2.spec.Grid.High) (api_Span.mk a1.2.2.spec.Earth.Lo a1.2.2.spec.Earth.Hi) a1.2.2.spec.Radars a1.2.2.spec.Age) a1.2.2.radars a1.2.2.horizon a1.2.2.kept a1.2.2.count a1.2.2.looks) 110).bind fun a3 =>
  (gd (((bif (bif (bif (bif (bif a0.1 then a1.1 else false) then (a0.2.1==0) else false) then (a1.2.1==0) else false) then (a3.2.1==0) else false) then (((a3.1.length:Nat):Int)==8) else false)==true&&true)) (Bk a3.1 0) default).bind fun a4 =>
  (gd (((bif (bif (bif (bif (bif (bif a0.1 then a1.1 else false) then (a0.2.1==0) else false) then (a1.2.1==0) else false) then (a3.2.1==0) else false) then (((a3.1.length:Nat):Int)==8) else false) then (((a4.Value_.Lo:Int)==(Ab 5).Lo)&&(((a4.Value_.Hi:Int)==(Ab 5).Hi)&&true)) else false)==true&&true)) (Bk a3.1 2) default).bind fun a5 =>
  (gd (((bif (bif (bif (bif (bif (bif (bif a0.1 then a1.1 else false) then (a0.2.1==0) else false) then (a1.2.1==0) else false) then (a3.2.1==0) else false) then (((a3.1.length:Nat):Int)==8) else false) then (((a4.Value_.Lo:Int)==(Ab 5).Lo)&&(((a4.Value_.Hi:Int)==(Ab 5).Hi)&&true)) else false) then ((a5.Key.Name==(⟨#[97]⟩:ByteArray))&&(((a5.Key.Tilt:Int)==0)&&(((a5.Key.Time:Int)==100)&&true))) else false)==true&&true)) (Bk a3.1 3) default).bind fun a6 =>
  some (bif (bif (bif (bif (bif (bif (bif (bif a0.1 then a1.1 else false) then (a0.2.1==0) else false) then (a1.2.1==0) else false) then (a3.2.1==0) else false) then (((a3.1.length:Nat):Int)==8) else false) then (((a4.Value_.Lo:Int)==(Ab 5).Lo)&&(((a4.Value_.Hi:Int)==(Ab 5).Hi)&&true)) else false) then ((a5.Key.Name==(⟨#[97]⟩:ByteArray))&&(((a5.Key.Tilt:Int)==0)&&(((a5.Key.Time:Int)==100)&&true))) else false) then ((((a6.Value_.Lo:Int)==(Ab 7).Lo)&&(((a6.Value_.Hi:Int)==(Ab 7).Hi)&&true))&&(((a6.Key.Name==(⟨#[98]⟩:ByteArray))&&(((a6.Key.Tilt:Int)==0)&&(((a6.Key.Time:Int)==100)&&true)))&&true)) else false)))
def Gk (a0:(List mosaic_Message)):Option (List mosaic_Message) :=
  some a0
def Gl (a1:Int) (k2:(Int→(List mosaic_Message)→Option (List mosaic_Message))) (a0:(List mosaic_Message)):Option (List mosaic_Message) :=
  (ck (a1+1)).bind fun a2 =>
  k2 a2 a0
def Gj (F:Nat) (p0:mosaic_Node) (a5:Int) (k2:(Int→(List mosaic_Message)→Option (List mosaic_Message))) (a0:mosaic_Key) (k4:(Int→(List mosaic_Message)→Option (List mosaic_Message))) (a1:Int) (a2:(List mosaic_Message)):Option (List mosaic_Message) :=
  bif (decide (a1<((((lkM p0.kept a0).getD []).length:Nat):Int))) then ((Bk ((lkM p0.kept a0).getD []) a1).bind fun a4 =>
  (Bb F a4).bind fun a7 =>
  (apd 56 a2 ([(mosaic_Message.mk a0 a7)])).bind fun a3 =>
  (ck (a1+1)).bind fun a6 =>
  k4 a6 a3) else (Gl a5 k2 a2)
def Ei (F:Nat) (p0:mosaic_Node) (a1:Int) (k2:(Int→(List mosaic_Message)→Option (List mosaic_Message))) (a0:mosaic_Key):Nat→Int→(List mosaic_Message)→Option (List mosaic_Message)
  | 0,_,_=>none
  | n+1,a3,a2=>Gj F p0 a1 k2 a0 (Ei F p0 a1 k2 a0 n) a3 a2
def Eh (F:Nat) (p0:mosaic_Node) (a2:(List mosaic_Key)) (k2:(Int→(List mosaic_Message)→Option (List mosaic_Message))) (a0:Int) (a1:(List mosaic_Message)):Option (List mosaic_Message) :=
  bif (decide (a0<((a2.length:Nat):Int))) then ((Bk a2 a0).bind fun a3 =>
  Ei F p0 a0 k2 a3 F 0 a1) else (Gk a1)
def D3 (F:Nat) (p0:mosaic_Node) (a0:(List mosaic_Key)):Nat→Int→(List mosaic_Message)→Option (List mosaic_Message)
  | 0,_,_=>none
  | n+1,a2,a1=>Eh F p0 a0 (D3 F p0 a0 n) a2 a1
def Eu (F:Nat) (p0:mosaic_Node):Option (List mosaic_Message) :=
  (Dd F p0).bind fun a0 =>
  D3 F p0 a0 F 0 ([])
def Lu:Option Bool :=
  some true
def K6 (p0:mosaic_Spec) (k2:(Int→Option Bool)) (a0:Int):Option Bool :=
  bif (decide (a0<((p0.Radars.length:Nat):Int))) then ((Bk p0.Radars a0).bind fun a1 =>
  bif (decide (((a1.Site.Name.size:Nat):Int)>40)) then (some false) else ((ck (a0+1)).bind fun a2 =>
  k2 a2)) else (Lu)
def Gb (p0:mosaic_Spec):Nat→Int→Option Bool
  | 0,_=>none
  | n+1,a0=>K6 p0 (Gb p0 n) a0
def L8 (F:Nat) (p0:mosaic_Spec):Option Bool :=
  bif (bif (bif (bif (decide (p0.Grid.Wide>6)) then true else (decide (p0.Grid.High>6))) then true else (bif (decide (((p0.Radars.length:Nat):Int)>5)) then (decide (((p0.Radars.length:Nat):Int)≤32)) else false)) then true else (decide (((p0.Radars.length:Nat):Int)>100))) then (some false) else (Gb p0 F 0)
def Af (p0:Int) (p1:Int) (p2:Int):Bool :=
  bif (decide (p0≥p1)) then (decide (p0≤p2)) else false
def C6 (p0:api_Grid):Int :=
  bif (bif (bif (bif (bif (!(Af p0.X (-1048576) 1048576)) then true else (!(Af p0.Y (-1048576) 1048576))) then true else (!(Af p0.Size 1 10000))) then true else (!(Af p0.Wide 1 64))) then true else (!(Af p0.High 1 64))) then (3) else (0)
def Ex (p0:api_Span) (p1:Int) (p2:Int):Bool :=
  bif (bif (decide (p0.Lo≤p0.Hi)) then (decide (p0.Lo≥p1)) else false) then (decide (p0.Hi≤p2)) else false
def H8 (p0:api_Span):Bool :=
  (Ex p0 1000000 100000000)
def Jk:Option Bool :=
  some true
def Jj (p0:ByteArray) (k2:(Int→Option Bool)) (a1:Int):Option Bool :=
  bif (decide (a1<((p0.size:Nat):Int))) then ((N7 p0 a1).bind fun a0 =>
  bif (bif (bif (bif (decide (a0<97)) then true else (decide (a0>122))) then (bif (decide (a0<48)) then true else (decide (a0>57))) else false) then (a0 != 95) else false) then (some false) else ((ck (a1+1)).bind fun a2 =>
  k2 a2)) else (Jk)
def Fo (p0:ByteArray):Nat→Int→Option Bool
  | 0,_=>none
  | n+1,a0=>Jj p0 (Fo p0 n) a0
def Kk (F:Nat) (p0:ByteArray):Option Bool :=
  (gd (((bif (decide (((p0.size:Nat):Int)<1)) then true else (decide (((p0.size:Nat):Int)>12)))==false&&true)) (N7 p0 (0:Int)) default).bind fun u1 =>
  (gd (((bif (bif (decide (((p0.size:Nat):Int)<1)) then true else (decide (((p0.size:Nat):Int)>12))) then true else (decide (u1<97)))==false&&true)) (N7 p0 (0:Int)) default).bind fun u2 =>
  bif (bif (bif (bif (decide (((p0.size:Nat):Int)<1)) then true else (decide (((p0.size:Nat):Int)>12))) then true else (decide (u1<97))) then true else (decide (u2>122))) then (some false) else (Fo p0 F 0)
def E2 (F:Nat) (p0:api_Site):Option Int :=
  (Kk F p0.Name).bind fun y2 =>
  bif (!y2) then (some 10) else (bif (bif (bif (bif (bif (bif (bif (!(Af p0.X (-1048576) 1048576)) then true else (!(Af p0.Y (-1048576) 1048576))) then true else (!(Af p0.Z 0 20000))) then true else (!(Af p0.Rose 1 90))) then true else (!(Af p0.Gates 1 200))) then true else (!(Af p0.Step 50 2000))) then true else (!(Af p0.Width 0 8))) then (some 3) else (some 0))
def Kl:Option Int :=
  some 0
def Hq (a0:Int) (k2:(Int→Option Int)):Option Int :=
  (ck (a0+1)).bind fun a1 =>
  k2 a1
def G7 (a1:Int) (k2:(Int→Option Int)) (a0:ref11_Radar):Option Int :=
  bif (!(Ex a0.Offset (-3600) 3600)) then (some 3) else (Hq a1 k2)
def Hp (p0:ref11_Spec) (a2:Int) (k2:(Int→Option Int)) (a1:ref11_Radar) (k5:(Int→Option Int)) (a0:Int):Option Int :=
  bif (decide (a0<a2)) then ((Bk p0.Radars a0).bind fun a3 =>
  bif (sEq a3.Site.Name a1.Site.Name) then (some 5) else ((ck (a0+1)).bind fun a4 =>
  k5 a4)) else (G7 a2 k2 a1)
def Do (p0:ref11_Spec) (a1:Int) (k2:(Int→Option Int)) (a0:ref11_Radar):Nat→Int→Option Int
  | 0,_=>none
  | n+1,a2=>Hp p0 a1 k2 a0 (Do p0 a1 k2 a0 n) a2
def Ho (F:Nat) (p0:ref11_Spec) (k2:(Int→Option Int)) (a0:Int):Option Int :=
  bif (decide (a0<((p0.Radars.length:Nat):Int))) then ((Bk p0.Radars a0).bind fun a1 =>
  (E2 F a1.Site).bind fun a2 =>
  bif (a2 != 0) then (some a2) else (Do p0 a0 k2 a1 F 0)) else (Kl)
def Ct (F:Nat) (p0:ref11_Spec):Nat→Int→Option Int
  | 0,_=>none
  | n+1,a0=>Ho F p0 (Ct F p0 n) a0
def De (F:Nat) (p0:ref11_Spec):Option Int :=
  bif ((C6 p0.Grid) != 0) then (some (C6 p0.Grid)) else (bif (bif (!(H8 p0.Earth)) then true else (!(Af p0.Age 1 86400))) then (some 3) else (bif (((p0.Radars.length:Nat):Int)==0) then (some 18) else (bif (decide (((p0.Radars.length:Nat):Int)>32)) then (some 9) else (Ct F p0 F 0))))
def H9 (F:Nat) (p0:ref11_Spec):Option (Except Int (ref11_Node×Int)) :=
  (De F p0).bind fun y5 =>
  bif (y5 != 0) then (some (.error y5)) else ((apd 88 ([]:List ref11_Radar) p0.Radars).bind fun l7 =>
  some (.ok ((ref11_Node.mk (ref11_Spec.mk p0.Grid p0.Earth l7 p0.Age) 0 ([]:(List ref11_Message))),0)))
def Jh (p0:mosaic_Spec) (a0:(List ref11_Radar)):Option ref11_Spec :=
  some (ref11_Spec.mk p0.Grid p0.Earth a0 p0.Age)
def Jg (p0:mosaic_Spec) (k2:((List ref11_Radar)→Int→Option ref11_Spec)) (a1:(List ref11_Radar)) (a0:Int):Option ref11_Spec :=
  bif (decide (a0<((p0.Radars.length:Nat):Int))) then ((Bk p0.Radars a0).bind fun a2 =>
  (apd 88 a1 ([(ref11_Radar.mk a2.Site a2.Offset)])).bind fun a3 =>
  (ck (a0+1)).bind fun a4 =>
  k2 a3 a4) else (Jh p0 a1)
def Fk (p0:mosaic_Spec):Nat→(List ref11_Radar)→Int→Option ref11_Spec
  | 0,_,_=>none
  | n+1,a0,a1=>Jg p0 (Fk p0 n) a0 a1
def Ez (F:Nat) (p0:mosaic_Spec):Option ref11_Spec :=
  Fk p0 F ([]) 0
def Br (F:Nat) (p0:mosaic_Node):Option Int :=
  (B3 F p0).bind fun a0 =>
  bif a0 then (some 0) else (some p0.horizon)
def Et (a0:((List mosaic_used)×(List (mosaic_where×(List api_Span))))):Option ((List mosaic_Clash)×Int×(List (mosaic_where×(List api_Span)))) :=
  some (([]:(List mosaic_Clash)),0,a0.2)
def Cw (a0:Int) (k2:(Int→Option ((List mosaic_Clash)×Int×(List (mosaic_where×(List api_Span)))))):Option ((List mosaic_Clash)×Int×(List (mosaic_where×(List api_Span)))) :=
  (ck (a0+1)).bind fun a1 =>
  k2 a1
def Cv (a1:((List mosaic_used)×(List (mosaic_where×(List api_Span))))) (a0:Int) (k2:(Int→Option ((List mosaic_Clash)×Int×(List (mosaic_where×(List api_Span)))))) (k4:(Option ((List mosaic_Clash)×Int×(List (mosaic_where×(List api_Span)))))):Option ((List mosaic_Clash)×Int×(List (mosaic_where×(List api_Span)))) :=
  bif (decide (0<((a1.1.length:Nat):Int))) then (none) else (Cw a0 k2)
def C8 (a1:((List mosaic_used)×(List (mosaic_where×(List api_Span))))) (a0:Int) (k2:(Int→Option ((List mosaic_Clash)×Int×(List (mosaic_where×(List api_Span)))))):Nat→Option ((List mosaic_Clash)×Int×(List (mosaic_where×(List api_Span))))
  | 0=>none
  | n+1=>Cv a1 a0 k2 (C8 a1 a0 k2 n)
def Cu (F:Nat) (a1:((List mosaic_used)×(List (mosaic_where×(List api_Span))))) (a2:Int) (k2:(Int→Option ((List mosaic_Clash)×Int×(List (mosaic_where×(List api_Span)))))) (a0:Int):Option ((List mosaic_Clash)×Int×(List (mosaic_where×(List api_Span)))) :=
  bif (decide (a0<a2)) then (C8 a1 a0 k2 F) else (Et a1)
def Bn (F:Nat) (a1:((List mosaic_used)×(List (mosaic_where×(List api_Span))))) (a0:Int):Nat→Int→Option ((List mosaic_Clash)×Int×(List (mosaic_where×(List api_Span))))
  | 0,_=>none
  | n+1,a2=>Cu F a1 a0 (Bn F a1 a0 n) a2
def Cs (F:Nat) (p0:mosaic_Node) (p1:Int):Option ((List mosaic_Clash)×Int×(List (mosaic_where×(List api_Span)))) :=
  (Cn F p0 p1).bind fun a0 =>
  bif (a0 != 0) then (some (([]:(List mosaic_Clash)),a0,p0.looks)) else ((Dy F p0 p1).bind fun a2 =>
  (ck (p0.spec.Grid.Wide*p0.spec.Grid.High)).bind fun a1 =>
  Bn F a2 a1 F 0)
def Fq (p0:mosaic_Node) (a1:((List mosaic_Pixel)×Int×(List (mosaic_where×(List api_Span))))) (a0:(List api_Span)):Option (api_Field×Int×(List (mosaic_where×(List api_Span)))) :=
  some ((api_Field.mk p0.spec.Grid a0),0,a1.2.2)
def Dq (p0:mosaic_Node) (a1:((List mosaic_Pixel)×Int×(List (mosaic_where×(List api_Span))))) (k2:((List api_Span)→Int→Option (api_Field×Int×(List (mosaic_where×(List api_Span)))))) (a2:(List api_Span)) (a0:Int):Option (api_Field×Int×(List (mosaic_where×(List api_Span)))) :=
  bif (decide (a0<((a1.1.length:Nat):Int))) then ((Bk a1.1 a0).bind fun a4 =>
  (apd 16 a2 ([a4.Value_])).bind fun a3 =>
  (ck (a0+1)).bind fun a5 =>
  k2 a3 a5) else (Fq p0 a1 a2)
def C0 (p0:mosaic_Node) (a0:((List mosaic_Pixel)×Int×(List (mosaic_where×(List api_Span))))):Nat→(List api_Span)→Int→Option (api_Field×Int×(List (mosaic_where×(List api_Span))))
  | 0,_,_=>none
  | n+1,a1,a2=>Dq p0 a0 (C0 p0 a0 n) a1 a2
def Dj (F:Nat) (p0:mosaic_Node) (p1:Int):Option (api_Field×Int×(List (mosaic_where×(List api_Span)))) :=
  (Cm F p0 p1).bind fun a0 =>
  bif (a0.2.1 != 0) then (some ((api_Field.mk (api_Grid.mk 0 0 0 0 0) ([]:(List api_Span))),a0.2.1,a0.2.2)) else (C0 p0 a0 F ([]) 0)
def E0 (F:Nat) (p0:(Option ref11_Node)) (p1:Int):Option Int :=
  bif (!(Af p1 0 4294967296)) then (some 3) else ((p0).bind fun d3 =>
  bif (decide (p1<d3.h)) then (some 17) else (some 0))
def Gg (F:Nat) (p0:(Option ref11_Node)) (p1:ref11_Key) (p2:Int):Option Bool :=
  none
def Gn (a0:(List ref11_Message)):Option (List ref11_Message) :=
  some a0
def Ek (a1:Int) (k2:((List ref11_Message)→Int→Option (List ref11_Message))) (a0:(List ref11_Message)):Option (List ref11_Message) :=
  (ck (a1+1)).bind fun a2 =>
  k2 a0 a2
def Gp (a1:(List ref11_Message)) (a0:Int) (k2:((List ref11_Message)→Int→Option (List ref11_Message))) (a3:ref11_Node) (a2:Bool):Option (List ref11_Message) :=
  bif a2 then ((Bk a3.l a0).bind fun a5 =>
  (apd 56 a1 ([a5])).bind fun a4 =>
  Ek a0 k2 a4) else (Ek a0 k2 a1)
def El (a1:Int) (k5:(Bool→Int→Option (List ref11_Message))) (a0:Bool):Option (List ref11_Message) :=
  (ck (a1+1)).bind fun a2 =>
  k5 a0 a2
def Gm (F:Nat) (p1:Int) (a5:(List ref11_Message)) (a6:Int) (k2:((List ref11_Message)→Int→Option (List ref11_Message))) (a2:ref11_Node) (a1:ref11_Message) (k5:(Bool→Int→Option (List ref11_Message))) (a4:Bool) (a3:Int):Option (List ref11_Message) :=
  bif (decide (a3<((a2.l.length:Nat):Int))) then ((Bk a2.l a3).bind fun a0 =>
  (gd (((bif (bif (sEq a0.Key.Name a1.Key.Name) then (a0.Key.Tilt==a1.Key.Tilt) else false) then (decide (a0.Key.Time>a1.Key.Time)) else false)==true&&true)) (Gg F (some a2) a0.Key p1) default).bind fun a7 =>
  bif (bif (bif (bif (sEq a0.Key.Name a1.Key.Name) then (a0.Key.Tilt==a1.Key.Tilt) else false) then (decide (a0.Key.Time>a1.Key.Time)) else false) then a7 else false) then (El a3 k5 false) else (El a3 k5 a4)) else (Gp a5 a6 k2 a2 a4)
def Em (F:Nat) (p1:Int) (a1:(List ref11_Message)) (a3:Int) (k2:((List ref11_Message)→Int→Option (List ref11_Message))) (a0:ref11_Node) (a2:ref11_Message):Nat→Bool→Int→Option (List ref11_Message)
  | 0,_,_=>none
  | n+1,a4,a5=>Gm F p1 a1 a3 k2 a0 a2 (Em F p1 a1 a3 k2 a0 a2 n) a4 a5
def Ej (F:Nat) (p0:(Option ref11_Node)) (p1:Int) (k2:((List ref11_Message)→Int→Option (List ref11_Message))) (a2:(List ref11_Message)) (a1:Int):Option (List ref11_Message) :=
  (p0).bind fun a0 =>
  bif (decide (a1<((a0.l.length:Nat):Int))) then ((Bk a0.l a1).bind fun a3 =>
  (Gg F (some a0) a3.Key p1).bind fun a4 =>
  Em F p1 a2 a1 k2 a0 a3 F a4 0) else (Gn a2)
def D5 (F:Nat) (p0:(Option ref11_Node)) (p1:Int):Nat→(List ref11_Message)→Int→Option (List ref11_Message)
  | 0,_,_=>none
  | n+1,a0,a1=>Ej F p0 p1 (D5 F p0 p1 n) a0 a1
def Dg (F:Nat) (p0:(Option ref11_Node)) (p1:Int):Option (List ref11_Message) :=
  D5 F p0 p1 F ([]) 0
def H3 (a0:(List ref11_Pixel)):Option ((List ref11_Pixel)×Int) :=
  some (a0,0)
def F9 (a0:(List ref11_Pixel)) (a1:(List ref11_Message)) (k3:(Option ((List ref11_Pixel)×Int))):Option ((List ref11_Pixel)×Int) :=
  bif (decide (0<((a1.length:Nat):Int))) then (none) else (H3 a0)
def Dn (a0:(List ref11_Pixel)) (a1:(List ref11_Message)):Nat→Option ((List ref11_Pixel)×Int)
  | 0=>none
  | n+1=>F9 a0 a1 (Dn a0 a1 n)
def Dm (F:Nat) (p1:Int) (d4:ref11_Node) (a0:(List ref11_Pixel)):Option ((List ref11_Pixel)×Int) :=
  (Dg F (some d4) p1).bind fun a1 =>
  Dn a0 a1 F
def Fa (F:Nat) (p1:Int) (d4:ref11_Node) (a3:Int) (k5:(Int→(List ref11_Pixel)→Option ((List ref11_Pixel)×Int))) (a0:Int) (a1:(List ref11_Pixel)):Option ((List ref11_Pixel)×Int) :=
  bif (decide (a0<a3)) then ((Bk a1 a0).bind fun a5 =>
  (Ug a1 a0 (ref11_Pixel.mk (api_Span.mk 0 1000000) (ref11_Key.mk ByteArray.empty 0 0))).bind fun a2 =>
  (ck (a0+1)).bind fun a4 =>
  k5 a4 a2) else (Dm F p1 d4 a1)
def Co (F:Nat) (p1:Int) (d4:ref11_Node) (a0:Int):Nat→Int→(List ref11_Pixel)→Option ((List ref11_Pixel)×Int)
  | 0,_,_=>none
  | n+1,a2,a1=>Fa F p1 d4 a0 (Co F p1 d4 a0 n) a2 a1
def Dz (F:Nat) (p0:(Option ref11_Node)) (p1:Int):Option ((List ref11_Pixel)×Int) :=
  (E0 F p0 p1).bind fun y3 =>
  bif (y3 != 0) then (some (([]:(List ref11_Pixel)),y3)) else ((p0).bind fun d4 =>
  (ck (d4.s.Grid.Wide*d4.s.Grid.High)).bind fun a0 =>
  (mkI 48 a0 (ref11_Pixel.mk (api_Span.mk 0 0) (ref11_Key.mk ByteArray.empty 0 0))).bind fun a1 =>
  (mkI 16 a0 (api_Span.mk 0 0)).bind fun a2 =>
  (mkI 1 a0 false).bind fun a3 =>
  Co F p1 d4 a0 F 0 a1)
def F8:Option ((List ref11_Clash)×Int) :=
  some (([]:(List ref11_Clash)),0)
def Da (a0:Int) (k3:(Int→Option ((List ref11_Clash)×Int))):Option ((List ref11_Clash)×Int) :=
  (ck (a0+1)).bind fun a1 =>
  k3 a1
def D7 (y5:(List ref11_Message)) (a0:Int) (k3:(Int→Option ((List ref11_Clash)×Int))) (k5:(Option ((List ref11_Clash)×Int))):Option ((List ref11_Clash)×Int) :=
  bif (decide (0<((y5.length:Nat):Int))) then (none) else (Da a0 k3)
def Cg (y5:(List ref11_Message)) (a0:Int) (k3:(Int→Option ((List ref11_Clash)×Int))):Nat→Option ((List ref11_Clash)×Int)
  | 0=>none
  | n+1=>D7 y5 a0 k3 (Cg y5 a0 k3 n)
def D6 (F:Nat) (p0:(Option ref11_Node)) (y5:(List ref11_Message)) (k3:(Int→Option ((List ref11_Clash)×Int))) (a1:Int):Option ((List ref11_Clash)×Int) :=
  (p0).bind fun a0 =>
  (ck (a0.s.Grid.Wide*a0.s.Grid.High)).bind fun a2 =>
  bif (decide (a1<a2)) then (Cg y5 a1 k3 F) else (F8)
def Bu (F:Nat) (p0:(Option ref11_Node)) (y5:(List ref11_Message)):Nat→Int→Option ((List ref11_Clash)×Int)
  | 0,_=>none
  | n+1,a0=>D6 F p0 y5 (Bu F p0 y5 n) a0
def D9 (F:Nat) (p0:(Option ref11_Node)) (y5:(List ref11_Message)):Option ((List ref11_Clash)×Int) :=
  Bu F p0 y5 F 0
def D8 (F:Nat) (p0:(Option ref11_Node)) (y5:(List ref11_Message)) (k7:(Option ((List ref11_Clash)×Int))):Option ((List ref11_Clash)×Int) :=
  bif (decide (0<((y5.length:Nat):Int))) then (none) else (D9 F p0 y5)
def Be (F:Nat) (p0:(Option ref11_Node)) (y5:(List ref11_Message)):Nat→Option ((List ref11_Clash)×Int)
  | 0=>none
  | n+1=>D8 F p0 y5 (Be F p0 y5 n)
def D4 (F:Nat) (p0:(Option ref11_Node)) (p1:Int):Option ((List ref11_Clash)×Int) :=
  (E0 F p0 p1).bind fun y3 =>
  bif (y3 != 0) then (some (([]:(List ref11_Clash)),y3)) else ((Dg F p0 p1).bind fun y5 =>
  Be F p0 y5 F)
def G6 (d8:ref11_Node) (a0:(List api_Span)):Option (api_Field×Int) :=
  some ((api_Field.mk d8.s.Grid a0),0)
def E7 (y5:((List ref11_Pixel)×Int)) (d8:ref11_Node) (k2:((List api_Span)→Int→Option (api_Field×Int))) (a1:(List api_Span)) (a0:Int):Option (api_Field×Int) :=
  bif (decide (a0<((y5.1.length:Nat):Int))) then ((Bk y5.1 a0).bind fun a3 =>
  (apd 16 a1 ([a3.Value_])).bind fun a2 =>
  (ck (a0+1)).bind fun a4 =>
  k2 a2 a4) else (G6 d8 a1)
def C9 (y5:((List ref11_Pixel)×Int)) (d8:ref11_Node):Nat→(List api_Span)→Int→Option (api_Field×Int)
  | 0,_,_=>none
  | n+1,a0,a1=>E7 y5 d8 (C9 y5 d8 n) a0 a1
def E6 (F:Nat) (p0:(Option ref11_Node)) (p1:Int):Option (api_Field×Int) :=
  (Dz F p0 p1).bind fun y5 =>
  bif (y5.2 != 0) then (some ((api_Field.mk (api_Grid.mk 0 0 0 0 0) ([]:(List api_Span))),y5.2)) else ((p0).bind fun d8 =>
  C9 y5 d8 F ([]) 0)
def Kf:Option Bool :=
  some true
def Hj (p0:(List api_Span)) (p1:(List api_Span)) (k2:(Int→Option Bool)) (a0:Int):Option Bool :=
  bif (decide (a0<((p0.length:Nat):Int))) then ((Bk p0 a0).bind fun a1 =>
  (Bk p1 a0).bind fun a2 =>
  bif (!(((a1.Lo:Int)==a2.Lo)&&(((a1.Hi:Int)==a2.Hi)&&true))) then (some false) else ((ck (a0+1)).bind fun a3 =>
  k2 a3)) else (Kf)
def Es (p0:(List api_Span)) (p1:(List api_Span)):Nat→Int→Option Bool
  | 0,_=>none
  | n+1,a0=>Hj p0 p1 (Es p0 p1 n) a0
def Jm (F:Nat) (p0:(List api_Span)) (p1:(List api_Span)):Option Bool :=
  bif (((p0.length:Nat):Int) != ((p1.length:Nat):Int)) then (some false) else (Es p0 p1 F 0)
def Fz (F:Nat) (p0:mosaic_Node) (p1:(Option ref11_Node)) (p2:Int) (a2:((List mosaic_Clash)×Int×(List (mosaic_where×(List api_Span))))):Option (Bool×(List (mosaic_where×(List api_Span)))) :=
  (Dj F (mosaic_Node.mk p0.spec p0.radars p0.horizon p0.kept p0.count a2.2.2) p2).bind fun a0 =>
  (E6 F p1 p2).bind fun a1 =>
  (gd (((((a0.1.Grid.X:Int)==a1.1.Grid.X)&&(((a0.1.Grid.Y:Int)==a1.1.Grid.Y)&&(((a0.1.Grid.Size:Int)==a1.1.Grid.Size)&&(((a0.1.Grid.Wide:Int)==a1.1.Grid.Wide)&&(((a0.1.Grid.High:Int)==a1.1.Grid.High)&&true)))))==true&&true)) (Jm F a0.1.Vals a1.1.Vals) default).bind fun a3 =>
  some (bif (bif (((a0.1.Grid.X:Int)==a1.1.Grid.X)&&(((a0.1.Grid.Y:Int)==a1.1.Grid.Y)&&(((a0.1.Grid.Size:Int)==a1.1.Grid.Size)&&(((a0.1.Grid.Wide:Int)==a1.1.Grid.Wide)&&(((a0.1.Grid.High:Int)==a1.1.Grid.High)&&true))))) then a3 else false) then (a0.2.1==a1.2) else false,a0.2.2)
def Hg (F:Nat) (p0:mosaic_Node) (p1:(Option ref11_Node)) (p2:Int) (a3:((List mosaic_Clash)×Int×(List (mosaic_where×(List api_Span))))) (a8:((List ref11_Clash)×Int)) (k3:(Int→Option (Bool×(List (mosaic_where×(List api_Span)))))) (a2:Int):Option (Bool×(List (mosaic_where×(List api_Span)))) :=
  bif (decide (a2<((a3.1.length:Nat):Int))) then ((Bk a3.1 a2).bind fun a4 =>
  (Bk a8.1 a2).bind fun a5 =>
  (gd (((a4.Pixel != a5.Pixel)==false&&true)) (Bk a3.1 a2) default).bind fun a0 =>
  (gd (((a4.Pixel != a5.Pixel)==false&&true)) (Bk a8.1 a2) default).bind fun a1 =>
  (gd (((bif (a4.Pixel != a5.Pixel) then true else (!((a0.A.Name==a1.A.Name)&&(((a0.A.Tilt:Int)==a1.A.Tilt)&&(((a0.A.Time:Int)==a1.A.Time)&&true)))))==false&&true)) (Bk a3.1 a2) default).bind fun a6 =>
  (gd (((bif (a4.Pixel != a5.Pixel) then true else (!((a0.A.Name==a1.A.Name)&&(((a0.A.Tilt:Int)==a1.A.Tilt)&&(((a0.A.Time:Int)==a1.A.Time)&&true)))))==false&&true)) (Bk a8.1 a2) default).bind fun a7 =>
  bif (bif (bif (a4.Pixel != a5.Pixel) then true else (!((a0.A.Name==a1.A.Name)&&(((a0.A.Tilt:Int)==a1.A.Tilt)&&(((a0.A.Time:Int)==a1.A.Time)&&true))))) then true else (!((a6.B.Name==a7.B.Name)&&(((a6.B.Tilt:Int)==a7.B.Tilt)&&(((a6.B.Time:Int)==a7.B.Time)&&true))))) then (some (false,a3.2.2)) else ((ck (a2+1)).bind fun a9 =>
  k3 a9)) else (Fz F p0 p1 p2 a3)
def Di (F:Nat) (p0:mosaic_Node) (p1:(Option ref11_Node)) (p2:Int) (a0:((List mosaic_Clash)×Int×(List (mosaic_where×(List api_Span))))) (a1:((List ref11_Clash)×Int)):Nat→Int→Option (Bool×(List (mosaic_where×(List api_Span))))
  | 0,_=>none
  | n+1,a2=>Hg F p0 p1 p2 a0 a1 (Di F p0 p1 p2 a0 a1 n) a2
def Fy (F:Nat) (p0:mosaic_Node) (p1:(Option ref11_Node)) (p2:Int) (a2:((List mosaic_Pixel)×Int×(List (mosaic_where×(List api_Span))))):Option (Bool×(List (mosaic_where×(List api_Span)))) :=
  (Cs F (mosaic_Node.mk p0.spec p0.radars p0.horizon p0.kept p0.count a2.2.2) p2).bind fun a0 =>
  (D4 F p1 p2).bind fun a1 =>
  bif (bif (a0.2.1 != a1.2) then true else (((a0.1.length:Nat):Int) != ((a1.1.length:Nat):Int))) then (some (false,a0.2.2)) else (Di F p0 p1 p2 a0 a1 F 0)
def Hh (F:Nat) (p0:mosaic_Node) (p1:(Option ref11_Node)) (p2:Int) (a3:((List mosaic_Pixel)×Int×(List (mosaic_where×(List api_Span))))) (a6:((List ref11_Pixel)×Int)) (k4:(Int→Option (Bool×(List (mosaic_where×(List api_Span)))))) (a2:Int):Option (Bool×(List (mosaic_where×(List api_Span)))) :=
  bif (decide (a2<((a3.1.length:Nat):Int))) then ((Bk a3.1 a2).bind fun a0 =>
  (Bk a6.1 a2).bind fun a1 =>
  (gd (((!(((a0.Value_.Lo:Int)==a1.Value_.Lo)&&(((a0.Value_.Hi:Int)==a1.Value_.Hi)&&true)))==false&&true)) (Bk a3.1 a2) default).bind fun a4 =>
  (gd (((!(((a0.Value_.Lo:Int)==a1.Value_.Lo)&&(((a0.Value_.Hi:Int)==a1.Value_.Hi)&&true)))==false&&true)) (Bk a6.1 a2) default).bind fun a5 =>
  bif (bif (!(((a0.Value_.Lo:Int)==a1.Value_.Lo)&&(((a0.Value_.Hi:Int)==a1.Value_.Hi)&&true))) then true else (!((a4.Key.Name==a5.Key.Name)&&(((a4.Key.Tilt:Int)==a5.Key.Tilt)&&(((a4.Key.Time:Int)==a5.Key.Time)&&true))))) then (some (false,a3.2.2)) else ((ck (a2+1)).bind fun a7 =>
  k4 a7)) else (Fy F p0 p1 p2 a3)
def Er (F:Nat) (p0:mosaic_Node) (p1:(Option ref11_Node)) (p2:Int) (a0:((List mosaic_Pixel)×Int×(List (mosaic_where×(List api_Span))))) (a1:((List ref11_Pixel)×Int)):Nat→Int→Option (Bool×(List (mosaic_where×(List api_Span))))
  | 0,_=>none
  | n+1,a2=>Hh F p0 p1 p2 a0 a1 (Er F p0 p1 p2 a0 a1 n) a2
def Fx (F:Nat) (p0:mosaic_Node) (p1:(Option ref11_Node)) (p2:Int):Option (Bool×(List (mosaic_where×(List api_Span)))) :=
  (Cm F p0 p2).bind fun a0 =>
  (Dz F p1 p2).bind fun a1 =>
  bif (bif (a0.2.1 != a1.2) then true else (((a0.1.length:Nat):Int) != ((a1.1.length:Nat):Int))) then (some (false,a0.2.2)) else (Er F p0 p1 p2 a0 a1 F 0)
def J8 (a0:(List Int)) (a2:Int):Option (List Int) :=
  (apd 1 a0 ([IntKind.u8.wrap a2])).bind fun a1 =>
  some a1
def J7 (k2:((List Int)→Int→Option (List Int))) (a1:(List Int)) (a0:Int):Option (List Int) :=
  bif (decide (a0≥128)) then ((Th a0 128).bind fun a3 =>
  (ck (a3+128)).bind fun a4 =>
  (apd 1 a1 ([IntKind.u8.wrap a4])).bind fun a2 =>
  (Pu a0 128).bind fun a5 =>
  k2 a2 a5) else (J8 a1 a0)
def Ge:Nat→(List Int)→Int→Option (List Int)
  | 0,_,_=>none
  | n+1,a0,a1=>J7 (Ge n) a0 a1
def C2 (F:Nat) (p0:(List Int)) (p1:Int):Option (List Int) :=
  Ge F p0 p1
def Ju (a0:Int):Option (List Int) :=
  some ([IntKind.u8.wrap (Int.fdiv a0 16777216),IntKind.u8.wrap (Int.fdiv a0 65536),IntKind.u8.wrap (Int.fdiv a0 256),IntKind.u8.wrap a0])
def Jt (p0:(List Int)) (k2:(Int→Int→Option (List Int))) (a1:Int) (a0:Int):Option (List Int) :=
  bif (decide (a0<((p0.length:Nat):Int))) then ((Bk p0 a0).bind fun a2 =>
  (ck (a0+1)).bind fun a3 =>
  k2 (IntKind.u32.wrap ((IntKind.u32.wrap ((IntKind.u32.wrap (31*a1))+(IntKind.u32.wrap a2)))+1)) a3) else (Ju a1)
def Gu (p0:(List Int)):Nat→Int→Int→Option (List Int)
  | 0,_,_=>none
  | n+1,a0,a1=>Jt p0 (Gu p0 n) a0 a1
def Ly (F:Nat) (p0:(List Int)):Option (List Int) :=
  Gu p0 F 1 0
def Eb (F:Nat) (a0:(List Int)):Option (List Int) :=
  (Ly F a0).bind fun a2 =>
  (apd 1 a0 a2).bind fun a1 =>
  some a1
def Ec (a1:Int) (k2:(Int→(List Int)→Option (List Int))) (a0:(List Int)):Option (List Int) :=
  (ck (a1+1)).bind fun a2 =>
  k2 a2 a0
def Ea (F:Nat) (a4:Int) (k2:(Int→(List Int)→Option (List Int))) (a3:mosaic_Message) (k4:((List Int)→Int→Option (List Int))) (a2:(List Int)) (a1:Int):Option (List Int) :=
  bif (decide (a1<((a3.Vals.length:Nat):Int))) then ((Bk a3.Vals a1).bind fun a0 =>
  (ck (a0.Hi-a0.Lo)).bind fun a5 =>
  (C2 F a2 a0.Lo).bind fun a7 =>
  (C2 F a7 a5).bind fun a8 =>
  (ck (a1+1)).bind fun a6 =>
  k4 a8 a6) else (Ec a4 k2 a2)
def Cp (F:Nat) (a1:Int) (k2:(Int→(List Int)→Option (List Int))) (a0:mosaic_Message):Nat→(List Int)→Int→Option (List Int)
  | 0,_,_=>none
  | n+1,a2,a3=>Ea F a1 k2 a0 (Cp F a1 k2 a0 n) a2 a3
def E9 (F:Nat) (a3:(List mosaic_Message)) (k2:(Int→(List Int)→Option (List Int))) (a1:Int) (a2:(List Int)):Option (List Int) :=
  bif (decide (a1<((a3.length:Nat):Int))) then ((Bk a3 a1).bind fun a0 =>
  (C2 F a2 ((a0.Key.Name.size:Nat):Int)).bind fun a5 =>
  (apd 1 a5 (sby a0.Key.Name)).bind fun a4 =>
  (C2 F a4 a0.Key.Tilt).bind fun a6 =>
  (C2 F a6 a0.Key.Time).bind fun a7 =>
  Cp F a1 k2 a0 F a7 0) else (Eb F a2)
def C4 (F:Nat) (a0:(List mosaic_Message)):Nat→Int→(List Int)→Option (List Int)
  | 0,_,_=>none
  | n+1,a2,a1=>E9 F a0 (C4 F a0 n) a2 a1
def Bi (F:Nat) (p0:mosaic_Node):Option (List Int) :=
  (B3 F p0).bind fun a0 =>
  bif a0 then (some ([]:(List Int))) else ((C2 F ([82,68,77,49]) p0.horizon).bind fun a1 =>
  (C2 F a1 p0.count).bind fun a2 =>
  (Eu F p0).bind fun a3 =>
  C4 F a3 F 0 a2)
def Jw (a2:Int) (a0:(List Int)):Option (List Int) :=
  (apd 1 a0 ([IntKind.u8.wrap a2])).bind fun a1 =>
  some a1
def Jv (k2:(Int→(List Int)→Option (List Int))) (a0:Int) (a1:(List Int)):Option (List Int) :=
  bif (decide (a0≥128)) then ((Th a0 128).bind fun a3 =>
  (ck (a3+128)).bind fun a4 =>
  (apd 1 a1 ([IntKind.u8.wrap a4])).bind fun a2 =>
  (Pu a0 128).bind fun a5 =>
  k2 a5 a2) else (Jw a0 a1)
def Gv:Nat→Int→(List Int)→Option (List Int)
  | 0,_,_=>none
  | n+1,a1,a0=>Jv (Gv n) a1 a0
def Cq (F:Nat) (p0:Int):Option (List Int) :=
  Gv F p0 ([])
def Kn (a0:Int):Option (List Int) :=
  some ([IntKind.u8.wrap (L2 .i64 (Int.fdiv a0 16777216) 255),IntKind.u8.wrap (L2 .i64 (Int.fdiv a0 65536) 255),IntKind.u8.wrap (L2 .i64 (Int.fdiv a0 256) 255),IntKind.u8.wrap (L2 .i64 a0 255)])
def Km (p0:(List Int)) (k2:(Int→Int→Option (List Int))) (a1:Int) (a0:Int):Option (List Int) :=
  bif (decide (a0<((p0.length:Nat):Int))) then ((ck (31*a1)).bind fun a3 =>
  (Bk p0 a0).bind fun a2 =>
  (ck a2).bind fun a4 =>
  (ck (a3+a4)).bind fun a5 =>
  (ck (a5+1)).bind fun a6 =>
  (Th a6 4294967296).bind fun a7 =>
  (ck (a0+1)).bind fun a8 =>
  k2 a7 a8) else (Kn a1)
def Hr (p0:(List Int)):Nat→Int→Int→Option (List Int)
  | 0,_,_=>none
  | n+1,a0,a1=>Km p0 (Hr p0 n) a0 a1
def Mt (F:Nat) (p0:(List Int)):Option (List Int) :=
  Hr p0 F 1 0
def Cz (F:Nat) (a0:(List Int)):Option (List Int) :=
  (Mt F a0).bind fun a2 =>
  (apd 1 a0 a2).bind fun a1 =>
  some a1
def Ew (a1:Int) (k2:((List Int)→Int→Option (List Int))) (a0:(List Int)):Option (List Int) :=
  (ck (a1+1)).bind fun a2 =>
  k2 a0 a2
def Ev (F:Nat) (a8:Int) (k2:((List Int)→Int→Option (List Int))) (a1:ref11_Message) (k4:((List Int)→Int→Option (List Int))) (a2:(List Int)) (a0:Int):Option (List Int) :=
  bif (decide (a0<((a1.Vals.length:Nat):Int))) then ((Bk a1.Vals a0).bind fun a5 =>
  (Cq F a5.Lo).bind fun aB =>
  (apd 1 a2 aB).bind fun a3 =>
  (Bk a1.Vals a0).bind fun a6 =>
  (Bk a1.Vals a0).bind fun a7 =>
  (ck (a6.Hi-a7.Lo)).bind fun a9 =>
  (Cq F a9).bind fun aC =>
  (apd 1 a3 aC).bind fun a4 =>
  (ck (a0+1)).bind fun aA =>
  k4 a4 aA) else (Ew a8 k2 a2)
def D0 (F:Nat) (a1:Int) (k2:((List Int)→Int→Option (List Int))) (a0:ref11_Message):Nat→(List Int)→Int→Option (List Int)
  | 0,_,_=>none
  | n+1,a2,a3=>Ev F a1 k2 a0 (D0 F a1 k2 a0 n) a2 a3
def Cy (F:Nat) (d4:ref11_Node) (k2:((List Int)→Int→Option (List Int))) (a2:(List Int)) (a1:Int):Option (List Int) :=
  bif (decide (a1<((d4.l.length:Nat):Int))) then ((Bk d4.l a1).bind fun a0 =>
  (Cq F ((a0.Key.Name.size:Nat):Int)).bind fun a8 =>
  (apd 1 a2 a8).bind fun a3 =>
  (s2b a0.Key.Name).bind fun a4 =>
  (apd 1 a3 a4).bind fun a5 =>
  (Cq F a0.Key.Tilt).bind fun a9 =>
  (apd 1 a5 a9).bind fun a6 =>
  (Cq F a0.Key.Time).bind fun aA =>
  (apd 1 a6 aA).bind fun a7 =>
  D0 F a1 k2 a0 F a7 0) else (Cz F a2)
def Ca (F:Nat) (d4:ref11_Node):Nat→(List Int)→Int→Option (List Int)
  | 0,_,_=>none
  | n+1,a0,a1=>Cy F d4 (Ca F d4 n) a0 a1
def Bs (F:Nat) (p0:(Option ref11_Node)):Option (List Int) :=
  (p0).bind fun d4 =>
  (Cq F d4.h).bind fun a2 =>
  (apd 1 ([82,68,77,49]) a2).bind fun a0 =>
  (Cq F ((d4.l.length:Nat):Int)).bind fun a3 =>
  (apd 1 a0 a3).bind fun a1 =>
  Ca F d4 F a1 0
def Dh (F:Nat) (p0:mosaic_Spec):Option Bool :=
  (L8 F p0).bind fun y5 =>
  bif (!y5) then ((Cr F).bind fun y6 =>
  some y6) else ((G1 F p0).bind fun y7 =>
  exc y7 (fun a2=>(Ez F p0).bind fun aK =>
  (H9 F aK).bind fun aL =>
  exc aL (fun a5=>(Bl F p0).bind fun aS =>
  (Ez F p0).bind fun aT =>
  (De F aT).bind fun aU =>
  bif (bif (aS != aU) then true else (a2 != a5)) then (some false) else ((Bl F p0).bind fun aV =>
  bif (bif (a2 != aV) then true else (!(true==(a2 != 0)))) then (some false) else (bif (a2 != 0) then ((Cr F).bind fun aW =>
  some aW) else (none)))) (fun aM=>(Bl F p0).bind fun aN =>
  (Ez F p0).bind fun aO =>
  (De F aO).bind fun aP =>
  bif (bif (aN != aP) then true else (a2 != aM.2)) then (some false) else ((Bl F p0).bind fun aQ =>
  bif (bif (a2 != aQ) then true else (!(true==(a2 != 0)))) then (some false) else (bif (a2 != 0) then ((Cr F).bind fun aR =>
  some aR) else (none))))) (fun a0=>(Ez F p0).bind fun aX =>
  (H9 F aX).bind fun aY =>
  exc aY (fun a6=>(Bl F p0).bind fun aA =>
  (Ez F p0).bind fun aB =>
  (De F aB).bind fun aC =>
  bif (bif (aA != aC) then true else (a0.2 != a6)) then (some false) else ((Bl F p0).bind fun aD =>
  bif (bif (a0.2 != aD) then true else (!(false==(a0.2 != 0)))) then (some false) else (bif (a0.2 != 0) then ((Cr F).bind fun aE =>
  some aE) else ((Br F (mosaic_Node.mk (mosaic_Spec.mk (api_Grid.mk a0.1.spec.Grid.X a0.1.spec.Grid.Y a0.1.spec.Grid.Size a0.1.spec.Grid.Wide a0.1.spec.Grid.High) (api_Span.mk a0.1.spec.Earth.Lo a0.1.spec.Earth.Hi) a0.1.spec.Radars a0.1.spec.Age) a0.1.radars a0.1.horizon a0.1.kept a0.1.count a0.1.looks)).bind fun aF =>
  bif (aF==0) then ((Dd F (mosaic_Node.mk (mosaic_Spec.mk (api_Grid.mk a0.1.spec.Grid.X a0.1.spec.Grid.Y a0.1.spec.Grid.Size a0.1.spec.Grid.Wide a0.1.spec.Grid.High) (api_Span.mk a0.1.spec.Earth.Lo a0.1.spec.Earth.Hi) a0.1.spec.Radars a0.1.spec.Age) a0.1.radars a0.1.horizon a0.1.kept a0.1.count a0.1.looks)).bind fun aG =>
  bif (((aG.length:Nat):Int)==0) then ((Fx F (mosaic_Node.mk (mosaic_Spec.mk (api_Grid.mk a0.1.spec.Grid.X a0.1.spec.Grid.Y a0.1.spec.Grid.Size a0.1.spec.Grid.Wide a0.1.spec.Grid.High) (api_Span.mk a0.1.spec.Earth.Lo a0.1.spec.Earth.Hi) a0.1.spec.Radars a0.1.spec.Age) a0.1.radars a0.1.horizon a0.1.kept a0.1.count a0.1.looks) (none:(Option ref11_Node)) 0).bind fun a4 =>
  bif a4.1 then ((Bi F (mosaic_Node.mk (mosaic_Spec.mk (api_Grid.mk a0.1.spec.Grid.X a0.1.spec.Grid.Y a0.1.spec.Grid.Size a0.1.spec.Grid.Wide a0.1.spec.Grid.High) (api_Span.mk a0.1.spec.Earth.Lo a0.1.spec.Earth.Hi) a0.1.spec.Radars a0.1.spec.Age) a0.1.radars a0.1.horizon a0.1.kept a0.1.count a4.2)).bind fun aH =>
  (Bs F (none:(Option ref11_Node))).bind fun aI =>
  bif (sEq (bst aH) (bst aI)) then ((Cr F).bind fun aJ =>
  some aJ) else (some false)) else (some false)) else (some false)) else (some false))))) (fun a1=>(Bl F p0).bind fun aZ =>
  (Ez F p0).bind fun b0 =>
  (De F b0).bind fun b1 =>
  bif (bif (aZ != b1) then true else (a0.2 != a1.2)) then (some false) else ((Bl F p0).bind fun b2 =>
  bif (bif (a0.2 != b2) then true else (!(false==(a0.2 != 0)))) then (some false) else (bif (a0.2 != 0) then ((Cr F).bind fun b3 =>
  some b3) else ((Br F (mosaic_Node.mk (mosaic_Spec.mk (api_Grid.mk a0.1.spec.Grid.X a0.1.spec.Grid.Y a0.1.spec.Grid.Size a0.1.spec.Grid.Wide a0.1.spec.Grid.High) (api_Span.mk a0.1.spec.Earth.Lo a0.1.spec.Earth.Hi) a0.1.spec.Radars a0.1.spec.Age) a0.1.radars a0.1.horizon a0.1.kept a0.1.count a0.1.looks)).bind fun b4 =>
  bif (b4==0) then ((Dd F (mosaic_Node.mk (mosaic_Spec.mk (api_Grid.mk a0.1.spec.Grid.X a0.1.spec.Grid.Y a0.1.spec.Grid.Size a0.1.spec.Grid.Wide a0.1.spec.Grid.High) (api_Span.mk a0.1.spec.Earth.Lo a0.1.spec.Earth.Hi) a0.1.spec.Radars a0.1.spec.Age) a0.1.radars a0.1.horizon a0.1.kept a0.1.count a0.1.looks)).bind fun b5 =>
  bif (((b5.length:Nat):Int)==0) then ((Fx F (mosaic_Node.mk (mosaic_Spec.mk (api_Grid.mk a0.1.spec.Grid.X a0.1.spec.Grid.Y a0.1.spec.Grid.Size a0.1.spec.Grid.Wide a0.1.spec.Grid.High) (api_Span.mk a0.1.spec.Earth.Lo a0.1.spec.Earth.Hi) a0.1.spec.Radars a0.1.spec.Age) a0.1.radars a0.1.horizon a0.1.kept a0.1.count a0.1.looks) (some (ref11_Node.mk (ref11_Spec.mk (api_Grid.mk a1.1.s.Grid.X a1.1.s.Grid.Y a1.1.s.Grid.Size a1.1.s.Grid.Wide a1.1.s.Grid.High) (api_Span.mk a1.1.s.Earth.Lo a1.1.s.Earth.Hi) a1.1.s.Radars a1.1.s.Age) a1.1.h a1.1.l)) 0).bind fun a3 =>
  bif a3.1 then ((Bi F (mosaic_Node.mk (mosaic_Spec.mk (api_Grid.mk a0.1.spec.Grid.X a0.1.spec.Grid.Y a0.1.spec.Grid.Size a0.1.spec.Grid.Wide a0.1.spec.Grid.High) (api_Span.mk a0.1.spec.Earth.Lo a0.1.spec.Earth.Hi) a0.1.spec.Radars a0.1.spec.Age) a0.1.radars a0.1.horizon a0.1.kept a0.1.count a3.2)).bind fun a7 =>
  (Bs F (some (ref11_Node.mk (ref11_Spec.mk (api_Grid.mk a1.1.s.Grid.X a1.1.s.Grid.Y a1.1.s.Grid.Size a1.1.s.Grid.Wide a1.1.s.Grid.High) (api_Span.mk a1.1.s.Earth.Lo a1.1.s.Earth.Hi) a1.1.s.Radars a1.1.s.Age) a1.1.h a1.1.l))).bind fun a8 =>
  bif (sEq (bst a7) (bst a8)) then ((Cr F).bind fun a9 =>
  some a9) else (some false)) else (some false)) else (some false)) else (some false)))))))
end Go.Proofs.YtkbjbnkkfifbmaaGreat
