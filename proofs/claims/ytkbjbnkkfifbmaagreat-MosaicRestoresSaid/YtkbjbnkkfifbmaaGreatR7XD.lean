import Derived.Test.YtkbjbnkkfifbmaaGreatR7EB
namespace Go.Proofs.YtkbjbnkkfifbmaaGreat
open Go Go.RowKit Go.Eng
set_option maxRecDepth 10000
set_option maxHeartbeats 4000000
set_option linter.unusedVariables false
set_option linter.unusedSimpArgs false
structure api_Grid where
  X:Int
  Y:Int
  Size:Int
  Wide:Int
  High:Int
  deriving Inhabited,DecidableEq
def api_Grid.cells (x:api_Grid):List Value:=[.int .i64 x.X,.int .i64 x.Y,.int .i64 x.Size,.int .i64 x.Wide,.int .i64 x.High]
theorem api_Grid.cells_len (x:api_Grid):(api_Grid.cells x).length=5:=rfl
structure api_Span where
  Lo:Int
  Hi:Int
  deriving Inhabited,DecidableEq
def api_Span.cells (x:api_Span):List Value:=[.int .i64 x.Lo,.int .i64 x.Hi]
theorem api_Span.cells_len (x:api_Span):(api_Span.cells x).length=2:=rfl
structure api_Site where
  Name:ByteArray
  X:Int
  Y:Int
  Z:Int
  Rose:Int
  Gates:Int
  Step:Int
  Width:Int
  deriving Inhabited,DecidableEq
def api_Site.cells (x:api_Site):List Value:=[.string x.Name,.int .i64 x.X,.int .i64 x.Y,.int .i64 x.Z,.int .i64 x.Rose,.int .i64 x.Gates,.int .i64 x.Step,.int .i64 x.Width]
theorem api_Site.cells_len (x:api_Site):(api_Site.cells x).length=8:=rfl
structure mosaic_Radar where
  Site:api_Site
  Offset:api_Span
  deriving Inhabited,DecidableEq
def mosaic_Radar.cells (x:mosaic_Radar):List Value:=[.string x.Site.Name,.int .i64 x.Site.X,.int .i64 x.Site.Y,.int .i64 x.Site.Z,.int .i64 x.Site.Rose,.int .i64 x.Site.Gates,.int .i64 x.Site.Step,.int .i64 x.Site.Width,.int .i64 x.Offset.Lo,.int .i64 x.Offset.Hi]
theorem mosaic_Radar.cells_len (x:mosaic_Radar):(mosaic_Radar.cells x).length=10:=rfl
structure mosaic_Spec where
  Grid:api_Grid
  Earth:api_Span
  Radars:(List mosaic_Radar)
  Age:Int
  deriving Inhabited,DecidableEq
structure mosaic_Key where
  Name:ByteArray
  Tilt:Int
  Time:Int
  deriving Inhabited,DecidableEq
def mosaic_Key.cells (x:mosaic_Key):List Value:=[.string x.Name,.int .i64 x.Tilt,.int .i64 x.Time]
theorem mosaic_Key.cells_len (x:mosaic_Key):(mosaic_Key.cells x).length=3:=rfl
structure mosaic_where where
  name:ByteArray
  tilt:Int
  deriving Inhabited,DecidableEq
def mosaic_where.cells (x:mosaic_where):List Value:=[.string x.name,.int .i64 x.tilt]
theorem mosaic_where.cells_len (x:mosaic_where):(mosaic_where.cells x).length=2:=rfl
structure mosaic_Node where
  spec:mosaic_Spec
  radars:(List (ByteArray×mosaic_Radar))
  horizon:Int
  kept:(List (mosaic_Key×(List (List api_Span))))
  count:Int
  looks:(List (mosaic_where×(List api_Span)))
  deriving Inhabited,DecidableEq
structure mosaic_Message where
  Key:mosaic_Key
  Vals:(List api_Span)
  deriving Inhabited,DecidableEq
structure beam_slant where
  c:Int
  s:Int
  d:Int
  deriving Inhabited,DecidableEq
def beam_slant.cells (x:beam_slant):List Value:=[.int .i64 x.c,.int .i64 x.s,.int .i64 x.d]
theorem beam_slant.cells_len (x:beam_slant):(beam_slant.cells x).length=3:=rfl
structure beam_vector where
  x:Int
  y:Int
  length:Int
  deriving Inhabited,DecidableEq
def beam_vector.cells (x:beam_vector):List Value:=[.int .i64 x.x,.int .i64 x.y,.int .i64 x.length]
theorem beam_vector.cells_len (x:beam_vector):(beam_vector.cells x).length=3:=rfl
structure mosaic_used where
  Key:mosaic_Key
  vals:(List api_Span)
  bands:(List api_Span)
  deriving Inhabited,DecidableEq
structure mosaic_Pixel where
  Value_:api_Span
  Key:mosaic_Key
  deriving Inhabited,DecidableEq
def mosaic_Pixel.cells (x:mosaic_Pixel):List Value:=[.int .i64 x.Value_.Lo,.int .i64 x.Value_.Hi,.string x.Key.Name,.int .i64 x.Key.Tilt,.int .i64 x.Key.Time]
theorem mosaic_Pixel.cells_len (x:mosaic_Pixel):(mosaic_Pixel.cells x).length=5:=rfl
structure ref11_Radar where
  Site:api_Site
  Offset:api_Span
  deriving Inhabited,DecidableEq
def ref11_Radar.cells (x:ref11_Radar):List Value:=[.string x.Site.Name,.int .i64 x.Site.X,.int .i64 x.Site.Y,.int .i64 x.Site.Z,.int .i64 x.Site.Rose,.int .i64 x.Site.Gates,.int .i64 x.Site.Step,.int .i64 x.Site.Width,.int .i64 x.Offset.Lo,.int .i64 x.Offset.Hi]
theorem ref11_Radar.cells_len (x:ref11_Radar):(ref11_Radar.cells x).length=10:=rfl
structure ref11_Spec where
  Grid:api_Grid
  Earth:api_Span
  Radars:(List ref11_Radar)
  Age:Int
  deriving Inhabited,DecidableEq
structure ref11_Key where
  Name:ByteArray
  Tilt:Int
  Time:Int
  deriving Inhabited,DecidableEq
def ref11_Key.cells (x:ref11_Key):List Value:=[.string x.Name,.int .i64 x.Tilt,.int .i64 x.Time]
theorem ref11_Key.cells_len (x:ref11_Key):(ref11_Key.cells x).length=3:=rfl
structure ref11_Message where
  Key:ref11_Key
  Vals:(List api_Span)
  deriving Inhabited,DecidableEq
structure ref11_Node where
  s:ref11_Spec
  h:Int
  l:(List ref11_Message)
  deriving Inhabited,DecidableEq
structure mosaic_reader where
  left:(List Int)
  deriving Inhabited,DecidableEq
structure ref11_reader where
  b:(List Int)
  bad:Bool
  deriving Inhabited,DecidableEq
abbrev api_Grid.ar (x:api_Grid):Array Value:=#[.int .i64 x.X,.int .i64 x.Y,.int .i64 x.Size,.int .i64 x.Wide,.int .i64 x.High]
abbrev api_Grid.ag (x:api_Grid):Value:=.agg #[.int .i64 x.X,.int .i64 x.Y,.int .i64 x.Size,.int .i64 x.Wide,.int .i64 x.High]
abbrev api_Site.ar (x:api_Site):Array Value:=#[.string x.Name,.int .i64 x.X,.int .i64 x.Y,.int .i64 x.Z,.int .i64 x.Rose,.int .i64 x.Gates,.int .i64 x.Step,.int .i64 x.Width]
abbrev api_Site.ag (x:api_Site):Value:=.agg #[.string x.Name,.int .i64 x.X,.int .i64 x.Y,.int .i64 x.Z,.int .i64 x.Rose,.int .i64 x.Gates,.int .i64 x.Step,.int .i64 x.Width]
abbrev mosaic_Radar.ar (x:mosaic_Radar):Array Value:=#[.string x.Site.Name,.int .i64 x.Site.X,.int .i64 x.Site.Y,.int .i64 x.Site.Z,.int .i64 x.Site.Rose,.int .i64 x.Site.Gates,.int .i64 x.Site.Step,.int .i64 x.Site.Width,.int .i64 x.Offset.Lo,.int .i64 x.Offset.Hi]
abbrev mosaic_Radar.ag (x:mosaic_Radar):Value:=.agg #[.string x.Site.Name,.int .i64 x.Site.X,.int .i64 x.Site.Y,.int .i64 x.Site.Z,.int .i64 x.Site.Rose,.int .i64 x.Site.Gates,.int .i64 x.Site.Step,.int .i64 x.Site.Width,.int .i64 x.Offset.Lo,.int .i64 x.Offset.Hi]
abbrev mosaic_Key.ar (x:mosaic_Key):Array Value:=#[.string x.Name,.int .i64 x.Tilt,.int .i64 x.Time]
abbrev mosaic_Key.ag (x:mosaic_Key):Value:=.agg #[.string x.Name,.int .i64 x.Tilt,.int .i64 x.Time]
abbrev beam_slant.ar (x:beam_slant):Array Value:=#[.int .i64 x.c,.int .i64 x.s,.int .i64 x.d]
abbrev beam_slant.ag (x:beam_slant):Value:=.agg #[.int .i64 x.c,.int .i64 x.s,.int .i64 x.d]
abbrev beam_vector.ar (x:beam_vector):Array Value:=#[.int .i64 x.x,.int .i64 x.y,.int .i64 x.length]
abbrev beam_vector.ag (x:beam_vector):Value:=.agg #[.int .i64 x.x,.int .i64 x.y,.int .i64 x.length]
abbrev mosaic_Pixel.ar (x:mosaic_Pixel):Array Value:=#[.int .i64 x.Value_.Lo,.int .i64 x.Value_.Hi,.string x.Key.Name,.int .i64 x.Key.Tilt,.int .i64 x.Key.Time]
abbrev mosaic_Pixel.ag (x:mosaic_Pixel):Value:=.agg #[.int .i64 x.Value_.Lo,.int .i64 x.Value_.Hi,.string x.Key.Name,.int .i64 x.Key.Tilt,.int .i64 x.Key.Time]
abbrev ref11_Radar.ar (x:ref11_Radar):Array Value:=#[.string x.Site.Name,.int .i64 x.Site.X,.int .i64 x.Site.Y,.int .i64 x.Site.Z,.int .i64 x.Site.Rose,.int .i64 x.Site.Gates,.int .i64 x.Site.Step,.int .i64 x.Site.Width,.int .i64 x.Offset.Lo,.int .i64 x.Offset.Hi]
abbrev ref11_Radar.ag (x:ref11_Radar):Value:=.agg #[.string x.Site.Name,.int .i64 x.Site.X,.int .i64 x.Site.Y,.int .i64 x.Site.Z,.int .i64 x.Site.Rose,.int .i64 x.Site.Gates,.int .i64 x.Site.Step,.int .i64 x.Site.Width,.int .i64 x.Offset.Lo,.int .i64 x.Offset.Hi]
abbrev ref11_Key.ar (x:ref11_Key):Array Value:=#[.string x.Name,.int .i64 x.Tilt,.int .i64 x.Time]
abbrev ref11_Key.ag (x:ref11_Key):Value:=.agg #[.string x.Name,.int .i64 x.Tilt,.int .i64 x.Time]
abbrev mosaic_Node.ax (x:mosaic_Node) (adg1_:Option Addr) (capg2_:Nat) (mg3_:Nat) (mg4_:Nat) (mg5_:Nat):Array Value:=#[.int .i64 x.spec.Grid.X,.int .i64 x.spec.Grid.Y,.int .i64 x.spec.Grid.Size,.int .i64 x.spec.Grid.Wide,.int .i64 x.spec.Grid.High,.int .i64 x.spec.Earth.Lo,.int .i64 x.spec.Earth.Hi,.slice adg1_ x.spec.Radars.length capg2_,.int .i64 x.spec.Age,.map (some mg3_),.int .i64 x.horizon,.map (some mg4_),.int .i64 x.count,.map (some mg5_)]
abbrev ref11_Node.ax (x:ref11_Node) (adg1_:Option Addr) (capg2_:Nat) (adg3_:Option Addr) (capg4_:Nat):Array Value:=#[.int .i64 x.s.Grid.X,.int .i64 x.s.Grid.Y,.int .i64 x.s.Grid.Size,.int .i64 x.s.Grid.Wide,.int .i64 x.s.Grid.High,.int .i64 x.s.Earth.Lo,.int .i64 x.s.Earth.Hi,.slice adg1_ x.s.Radars.length capg2_,.int .i64 x.s.Age,.int .i64 x.h,.slice adg3_ x.l.length capg4_]
abbrev mosaic_Spec.ax (x:mosaic_Spec) (adg1_:Option Addr) (capg2_:Nat):Array Value:=#[.int .i64 x.Grid.X,.int .i64 x.Grid.Y,.int .i64 x.Grid.Size,.int .i64 x.Grid.Wide,.int .i64 x.Grid.High,.int .i64 x.Earth.Lo,.int .i64 x.Earth.Hi,.slice adg1_ x.Radars.length capg2_,.int .i64 x.Age]
abbrev ref11_Spec.ax (x:ref11_Spec) (adg1_:Option Addr) (capg2_:Nat):Array Value:=#[.int .i64 x.Grid.X,.int .i64 x.Grid.Y,.int .i64 x.Grid.Size,.int .i64 x.Grid.Wide,.int .i64 x.Grid.High,.int .i64 x.Earth.Lo,.int .i64 x.Earth.Hi,.slice adg1_ x.Radars.length capg2_,.int .i64 x.Age]
abbrev api_Grid.e0 (x:api_Grid):Bool:=(((x.X:Int)==0)&&(((x.Y:Int)==0)&&(((x.Size:Int)==0)&&(((x.Wide:Int)==0)&&(((x.High:Int)==0)&&true)))))
abbrev api_Site.e0 (x:api_Site):Bool:=((x.Name==ByteArray.empty)&&(((x.X:Int)==0)&&(((x.Y:Int)==0)&&(((x.Z:Int)==0)&&(((x.Rose:Int)==0)&&(((x.Gates:Int)==0)&&(((x.Step:Int)==0)&&(((x.Width:Int)==0)&&true))))))))
abbrev mosaic_Radar.e0 (x:mosaic_Radar):Bool:=((x.Site.Name==ByteArray.empty)&&(((x.Site.X:Int)==0)&&(((x.Site.Y:Int)==0)&&(((x.Site.Z:Int)==0)&&(((x.Site.Rose:Int)==0)&&(((x.Site.Gates:Int)==0)&&(((x.Site.Step:Int)==0)&&(((x.Site.Width:Int)==0)&&(((x.Offset.Lo:Int)==0)&&(((x.Offset.Hi:Int)==0)&&true))))))))))
abbrev mosaic_Key.e0 (x:mosaic_Key):Bool:=((x.Name==ByteArray.empty)&&(((x.Tilt:Int)==0)&&(((x.Time:Int)==0)&&true)))
abbrev beam_slant.e0 (x:beam_slant):Bool:=(((x.c:Int)==0)&&(((x.s:Int)==0)&&(((x.d:Int)==0)&&true)))
abbrev beam_vector.e0 (x:beam_vector):Bool:=(((x.x:Int)==0)&&(((x.y:Int)==0)&&(((x.length:Int)==0)&&true)))
abbrev mosaic_Pixel.e0 (x:mosaic_Pixel):Bool:=(((x.Value_.Lo:Int)==0)&&(((x.Value_.Hi:Int)==0)&&((x.Key.Name==ByteArray.empty)&&(((x.Key.Tilt:Int)==0)&&(((x.Key.Time:Int)==0)&&true)))))
abbrev ref11_Radar.e0 (x:ref11_Radar):Bool:=((x.Site.Name==ByteArray.empty)&&(((x.Site.X:Int)==0)&&(((x.Site.Y:Int)==0)&&(((x.Site.Z:Int)==0)&&(((x.Site.Rose:Int)==0)&&(((x.Site.Gates:Int)==0)&&(((x.Site.Step:Int)==0)&&(((x.Site.Width:Int)==0)&&(((x.Offset.Lo:Int)==0)&&(((x.Offset.Hi:Int)==0)&&true))))))))))
abbrev ref11_Key.e0 (x:ref11_Key):Bool:=((x.Name==ByteArray.empty)&&(((x.Tilt:Int)==0)&&(((x.Time:Int)==0)&&true)))
abbrev T7:Array Value:=#[.string ByteArray.empty,.int .i64 0,.int .i64 0,.int .i64 0,.int .i64 0,.int .i64 0,.int .i64 0,.int .i64 0,.int .i64 0,.int .i64 0]
abbrev z37:Array Value:=#[.int .i64 0,.int .i64 0,.int .i64 0,.int .i64 0,.int .i64 0,.int .i64 0,.int .i64 0,.slice none 0 0,.int .i64 0]
abbrev X3:Array Value:=#[.string ByteArray.empty,.int .i64 0,.int .i64 0,.int .i64 0,.int .i64 0,.int .i64 0,.int .i64 0,.int .i64 0]
abbrev z66:Array Value:=#[.int .i64 0,.int .i64 0,.string ByteArray.empty,.int .i64 0,.int .i64 0]
abbrev z49:Array Value:=#[.string ByteArray.empty,.int .i64 0,.int .i64 0,.slice none 0 0]
def Rp47:Rel (List api_Span):=fun μ cs x=>∃(ad1:Option Addr) (cap2:Nat),cs=[.slice ad1 x.length cap2]∧ArrM μ 2 api_Span.cells ad1 cap2 x
theorem Rp47.mono:Rel.Mono Rp47:=by
  intro μ ν cs x hle h;obtain ⟨ad1,cap2,rfl,f0⟩:=h;exact ⟨ad1,cap2,rfl,f0.mono hle⟩
theorem Rp47.one:Rel.One 1 Rp47:=by
  intro μ cs x h;obtain ⟨ad1,cap2,rfl,f0⟩:=h
  all_goals rfl
def Rp155:Rel mosaic_used:=fun μ cs x=>∃(ad1:Option Addr) (cap2:Nat) (ad3:Option Addr) (cap4:Nat),cs=[.string x.Key.Name,.int .i64 x.Key.Tilt,.int .i64 x.Key.Time,.slice ad1 x.vals.length cap2,.slice ad3 x.bands.length cap4]∧ArrM μ 2 api_Span.cells ad1 cap2 x.vals∧ArrM μ 2 api_Span.cells ad3 cap4 x.bands
theorem Rp155.mono:Rel.Mono Rp155:=by
  intro μ ν cs x hle h;obtain ⟨ad1,cap2,ad3,cap4,rfl,f0,f1⟩:=h;exact ⟨ad1,cap2,ad3,cap4,rfl,f0.mono hle,f1.mono hle⟩
theorem Rp155.one:Rel.One 5 Rp155:=by
  intro μ cs x h;obtain ⟨ad1,cap2,ad3,cap4,rfl,f0,f1⟩:=h
  all_goals rfl
def Rp49:Rel mosaic_Message:=fun μ cs x=>∃(ad1:Option Addr) (cap2:Nat),cs=[.string x.Key.Name,.int .i64 x.Key.Tilt,.int .i64 x.Key.Time,.slice ad1 x.Vals.length cap2]∧ArrM μ 2 api_Span.cells ad1 cap2 x.Vals
theorem Rp49.mono:Rel.Mono Rp49:=by
  intro μ ν cs x hle h;obtain ⟨ad1,cap2,rfl,f0⟩:=h;exact ⟨ad1,cap2,rfl,f0.mono hle⟩
theorem Rp49.one:Rel.One 4 Rp49:=by
  intro μ cs x h;obtain ⟨ad1,cap2,rfl,f0⟩:=h
  all_goals rfl
def Rp122:Rel ref11_Message:=fun μ cs x=>∃(ad1:Option Addr) (cap2:Nat),cs=[.string x.Key.Name,.int .i64 x.Key.Tilt,.int .i64 x.Key.Time,.slice ad1 x.Vals.length cap2]∧ArrM μ 2 api_Span.cells ad1 cap2 x.Vals
theorem Rp122.mono:Rel.Mono Rp122:=by
  intro μ ν cs x hle h;obtain ⟨ad1,cap2,rfl,f0⟩:=h;exact ⟨ad1,cap2,rfl,f0.mono hle⟩
theorem Rp122.one:Rel.One 4 Rp122:=by
  intro μ cs x h;obtain ⟨ad1,cap2,rfl,f0⟩:=h
  all_goals rfl
def Rp167:Rel ref11_Node:=fun μ cs x=>∃(ad1:Option Addr) (cap2:Nat) (ad3:Option Addr) (cap4:Nat) (css5:List (List Value)),cs=[.int .i64 x.s.Grid.X,.int .i64 x.s.Grid.Y,.int .i64 x.s.Grid.Size,.int .i64 x.s.Grid.Wide,.int .i64 x.s.Grid.High,.int .i64 x.s.Earth.Lo,.int .i64 x.s.Earth.Hi,.slice ad1 x.s.Radars.length cap2,.int .i64 x.s.Age,.int .i64 x.h,.slice ad3 x.l.length cap4]∧ArrM μ 10 ref11_Radar.cells ad1 cap2 x.s.Radars∧ArrQ μ 4 Rp122 ad3 cap4 css5 x.l
theorem Rp167.mono:Rel.Mono Rp167:=by
  intro μ ν cs x hle h;obtain ⟨ad1,cap2,ad3,cap4,css5,rfl,f0,f1⟩:=h;exact ⟨ad1,cap2,ad3,cap4,css5,rfl,f0.mono hle,f1.mono Rp122.mono hle⟩
def F2 (p0:ByteArray):Bool:=Zs p0
def or3 (x y z:Int):Int:=if x≠0 then x else if y≠0 then y else z
def F3 (x y:mosaic_Key):Int:=or3 (if x.Time<y.Time then -1 else if y.Time<x.Time then 1 else 0) (if Ry x.Name y.Name then -1 else if Rx x.Name y.Name then 1 else 0) (if x.Tilt<y.Tilt then -1 else if y.Tilt<x.Tilt then 1 else 0)
def E9 (l:List mosaic_Key):List mosaic_Key:=T5 F3 l
def Gv (F:Nat) (p0:mosaic_Node):Option (List mosaic_Key):=if p0.kept.length≤1000000 then some (E9 (p0.kept.map (·.1))) else none
def Jz (F:Nat) (p0:List (List api_Span)) (p1:Int) (p2:List (List api_Span)):Option (List (List api_Span)):=if 0≤p1∧p1≤(p0.length:Int)∧p2.length=1∧p0.length≤1000000 then some (p0.take p1.toNat++p2++p0.drop p1.toNat) else none
def A5 (p0:Int) (p1:Int) (p2:Int):Bool :=
  bif (decide (p1≤p0)) then (decide (p0≤p2)) else false
def C1 (c2:Bool):Int :=
  bif c2 then (3) else (0)
def B8 (p0:api_Grid):Int :=
  bif (!(A5 p0.X (-1048576) 1048576)) then (C1 (!(A5 p0.X (-1048576) 1048576))) else (bif (!(A5 p0.Y (-1048576) 1048576)) then (C1 (!(A5 p0.Y (-1048576) 1048576))) else (bif (!(A5 p0.Size 1 10000)) then (C1 (!(A5 p0.Size 1 10000))) else (bif (!(A5 p0.Wide 1 64)) then (C1 (!(A5 p0.Wide 1 64))) else (C1 (!(A5 p0.High 1 64))))))
def B2 (p0:api_Span) (p1:Int) (p2:Int):Bool :=
  bif (bif (decide (p1≤p0.Lo)) then (decide (p0.Lo≤p0.Hi)) else false) then (decide (p0.Hi≤p2)) else false
def B7 (p0:Int) (p1:Int) (p2:Int):Bool :=
  bif (decide (p1≤p0)) then (decide (p0≤p2)) else false
def Ma (F:Nat) (p0:ByteArray):Option Bool :=
  (gd (((bif (!(sEq p0 (⟨#[]⟩:ByteArray))) then (decide (((p0.size:Nat):Int)≤12)) else false)==true&&true)) (Pe p0 (0:Int)) default).bind fun u1 =>
  (gd (((bif (bif (!(sEq p0 (⟨#[]⟩:ByteArray))) then (decide (((p0.size:Nat):Int)≤12)) else false) then (decide (u1≥97)) else false)==true&&true)) (Pe p0 (0:Int)) default).bind fun u2 =>
  some (bif (bif (bif (bif (!(sEq p0 (⟨#[]⟩:ByteArray))) then (decide (((p0.size:Nat):Int)≤12)) else false) then (decide (u1≥97)) else false) then (decide (u2≤122)) else false) then (!(F2 p0)) else false)
def C2 (c4:Bool):Option Int :=
  bif c4 then (some 3) else (some 0)
def Ch (p0:api_Site) (c3:Bool):Option Int :=
  bif c3 then (some 3) else (bif (!(A5 p0.Rose 1 90)) then (C2 (!(A5 p0.Rose 1 90))) else (bif (!(A5 p0.Gates 1 200)) then (C2 (!(A5 p0.Gates 1 200))) else (bif (!(A5 p0.Step 50 2000)) then (C2 (!(A5 p0.Step 50 2000))) else (C2 (!(A5 p0.Width 0 8))))))
def beam_CheckSite (F:Nat) (p0:api_Site):Option Int :=
  (Ma F p0.Name).bind fun y2 =>
  bif (!y2) then (some 10) else (bif (!(A5 p0.X (-1048576) 1048576)) then (Ch p0 (!(A5 p0.X (-1048576) 1048576))) else (bif (!(A5 p0.Y (-1048576) 1048576)) then (Ch p0 (!(A5 p0.Y (-1048576) 1048576))) else (Ch p0 (!(A5 p0.Z 0 20000)))))
def Kw (a0:(List (ByteArray×Bool))):Option Int :=
  some 0
def Gc (F:Nat) (p0:mosaic_Spec) (k2:((List (ByteArray×Bool))→Int→Option Int)) (a1:(List (ByteArray×Bool))) (a2:Int):Option Int :=
  bif (decide (a2<((p0.Radars.length:Nat):Int))) then ((C0 p0.Radars a2).bind fun a0 =>
  (beam_CheckSite F a0.Site).bind fun a3 =>
  bif (a3 != 0) then (some a3) else (bif ((lkM a1 a0.Site.Name).getD false) then (some 5) else (bif (!(B2 a0.Offset (-3600) 3600)) then (some 3) else ((ck (a2+1)).bind fun a4 =>
  k2 (upM a1 a0.Site.Name true) a4)))) else (Kw a1)
def D6 (F:Nat) (p0:mosaic_Spec):Nat→(List (ByteArray×Bool))→Int→Option Int
  | 0,_,_=>none
  | n+1,a0,a1=>Gc F p0 (D6 F p0 n) a0 a1
def Ep (F:Nat) (p0:mosaic_Spec):Option Int :=
  bif ((B8 p0.Grid) != 0) then (some (B8 p0.Grid)) else (bif (bif (!(B2 p0.Earth 1000000 100000000)) then true else (!(B7 p0.Age 1 86400))) then (some 3) else (bif (((p0.Radars.length:Nat):Int)==0) then (some 18) else (bif (decide (((p0.Radars.length:Nat):Int)>32)) then (some 9) else (D6 F p0 F ([]:List (ByteArray×Bool)) 0))))
def Bd (F:Nat) (p0:(List mosaic_Radar)):Option (List mosaic_Radar) :=
  (apd 88 ([]:List mosaic_Radar) p0).bind fun l5 =>
  some l5
def M6 (p0:mosaic_Spec) (y7:(List mosaic_Radar)) (a0:(List (ByteArray×mosaic_Radar))):Option (Except Int (mosaic_Node×Int)) :=
  some (.ok ((mosaic_Node.mk (mosaic_Spec.mk p0.Grid p0.Earth y7 p0.Age) a0 0 ([]:List (mosaic_Key×(List (List api_Span)))) 0 ([]:List (mosaic_where×(List api_Span)))),0))
def Kj (p0:mosaic_Spec) (y7:(List mosaic_Radar)) (k2:((List (ByteArray×mosaic_Radar))→Int→Option (Except Int (mosaic_Node×Int)))) (a1:(List (ByteArray×mosaic_Radar))) (a0:Int):Option (Except Int (mosaic_Node×Int)) :=
  bif (decide (a0<((y7.length:Nat):Int))) then ((C0 y7 a0).bind fun a2 =>
  (ck (a0+1)).bind fun a3 =>
  k2 (upM a1 a2.Site.Name a2) a3) else (M6 p0 y7 a1)
def Gj (p0:mosaic_Spec) (y7:(List mosaic_Radar)):Nat→(List (ByteArray×mosaic_Radar))→Int→Option (Except Int (mosaic_Node×Int))
  | 0,_,_=>none
  | n+1,a0,a1=>Kj p0 y7 (Gj p0 y7 n) a0 a1
def Gw (F:Nat) (p0:mosaic_Spec):Option (Except Int (mosaic_Node×Int)) :=
  (Ep F p0).bind fun y5 =>
  bif (y5 != 0) then (some (.error y5)) else ((Bd F p0.Radars).bind fun y7 =>
  Gj p0 y7 F ([]:List (ByteArray×mosaic_Radar)) 0)
def C8 (F:Nat) (p0:mosaic_Node):Option Bool :=
  some false
def Gp:Option Int :=
  some 0
def Eg (p1:mosaic_Message) (k2:(Int→Option Int)) (a0:Int):Option Int :=
  bif (decide (a0<((p1.Vals.length:Nat):Int))) then ((C0 p1.Vals a0).bind fun a1 =>
  bif (!(B2 a1 0 1000000)) then (some 3) else ((ck (a0+1)).bind fun a2 =>
  k2 a2)) else (Gp)
def Ci (p1:mosaic_Message):Nat→Int→Option Int
  | 0,_=>none
  | n+1,a0=>Eg p1 (Ci p1 n) a0
def Ed (F:Nat) (p0:mosaic_Node) (p1:mosaic_Message):Option Int :=
  bif (!((lkM p0.radars p1.Key.Name).isSome)) then (some 4) else (bif (bif (!(B7 p1.Key.Tilt 0 256)) then true else (!(B7 p1.Key.Time 0 4294967296))) then (some 3) else ((ck (p0.spec.Grid.Wide*p0.spec.Grid.High)).bind fun a0 =>
  bif (((p1.Vals.length:Nat):Int) != a0) then (some 11) else (Ci p1 F 0)))
def M4:Option Int :=
  some 0
def Kf (p0:(List Int)) (k2:(Int→Option Int)) (a0:Int):Option Int :=
  bif (decide (a0<((p0.length:Nat):Int))) then ((C0 p0 a0).bind fun a1 =>
  bif (a1 != 0) then (some a1) else ((ck (a0+1)).bind fun a2 =>
  k2 a2)) else (M4)
def Gh (p0:(List Int)):Nat→Int→Option Int
  | 0,_=>none
  | n+1,a0=>Kf p0 (Gh p0 n) a0
def Lg (F:Nat) (p0:(List Int)):Option Int :=
  Gh p0 F 0
def Cj (p0:Int):Bool :=
  p0 != p0
def Ae (p0:Int) (p1:Int):Int :=
  bif (Cj p0) then (bif (Cj p1) then (0) else (-1)) else (bif (Cj p1) then (1) else (bif (decide (p0<p1)) then (-1) else (bif (decide (p0>p1)) then (1) else (0))))
def Fj (F:Nat) (p0:api_Span) (p1:api_Span):Option Int :=
  (Lg F ([(Ae p0.Lo p1.Lo),(Ae p0.Hi p1.Hi)])).bind fun y4 =>
  some y4
def Ar (p0:(List api_Span)) (p1:(List api_Span)):Option Int :=
  bif (decide (((p0.length:Nat):Int)<((p1.length:Nat):Int))) then (some (-1)) else (some 0)
def Aq (F:Nat) (p0:(List api_Span)) (p1:(List api_Span)) (k2:(Int→Option Int)) (a0:Int):Option Int :=
  bif (decide (a0<((p0.length:Nat):Int))) then ((C0 p0 a0).bind fun a2 =>
  bif (decide (a0≥((p1.length:Nat):Int))) then (some 1) else ((C0 p1 a0).bind fun a3 =>
  (Fj F a2 a3).bind fun a1 =>
  bif (a1 != 0) then (some a1) else ((ck (a0+1)).bind fun a4 =>
  k2 a4))) else (Ar p0 p1)
def Ad (F:Nat) (p0:(List api_Span)) (p1:(List api_Span)):Nat→Int→Option Int
  | 0,_=>none
  | n+1,a0=>Aq F p0 p1 (Ad F p0 p1 n) a0
def As (F:Nat) (p0:(List api_Span)) (p1:(List api_Span)):Option Int :=
  Ad F p0 p1 F 0
def Fi (F:Nat) (p0:(List api_Span)) (p1:(List api_Span)):Option Int :=
  (As F p0 p1).bind fun y8 =>
  some y8
def Av (F:Nat) (p0:(List (List api_Span))) (p1:(List api_Span)) (a0:Int):Option (Int×Bool) :=
  bif (decide (a0<((p0.length:Nat):Int))) then ((C0 p0 a0).bind fun a1 =>
  (Fi F a1 p1).bind fun a2 =>
  some (a0,a2==0)) else (some (a0,false))
def Au (F:Nat) (p0:(List (List api_Span))) (p1:(List api_Span)) (k2:(Int→Int→Option (Int×Bool))) (a1:Int) (a0:Int):Option (Int×Bool) :=
  bif (decide (a0<a1)) then ((ck (a0+a1)).bind fun a4 =>
  (ck (Int.fdiv (IntKind.u64.wrap a4) 2)).bind fun a2 =>
  (C0 p0 a2).bind fun a3 =>
  (Fi F a3 p1).bind fun a6 =>
  bif (decide (a6<0)) then ((ck (a2+1)).bind fun a5 =>
  k2 a1 a5) else (k2 a2 a0)) else (Av F p0 p1 a0)
def Ah (F:Nat) (p0:(List (List api_Span))) (p1:(List api_Span)):Nat→Int→Int→Option (Int×Bool)
  | 0,_,_=>none
  | n+1,a0,a1=>Au F p0 p1 (Ah F p0 p1 n) a0 a1
def Az (F:Nat) (p0:(List (List api_Span))) (p1:(List api_Span)):Option (Int×Bool) :=
  Ah F p0 p1 F ((p0.length:Nat):Int) 0
def C9 (F:Nat) (p0:mosaic_Node) (p1:mosaic_Message):Option (Int×Bool) :=
  (Az F ((lkM p0.kept p1.Key).getD []) p1.Vals).bind fun a0 =>
  some (a0.1,a0.2)
def Bu (F:Nat) (p0:(List (List api_Span))):Option (List (List api_Span)) :=
  (apd 24 ([]:List (List api_Span)) p0).bind fun l7 =>
  some l7
def B5 (F:Nat) (p0:(List api_Span)):Option (List api_Span) :=
  (apd 16 ([]:List api_Span) p0).bind fun l5 =>
  some l5
def Fp (F:Nat) (p0:mosaic_Node) (p1:mosaic_Message):Option mosaic_Node :=
  (C9 F p0 p1).bind fun a1 =>
  (Bu F ((lkM p0.kept p1.Key).getD [])).bind fun a2 =>
  (B5 F p1.Vals).bind fun a3 =>
  (Jz F a2 a1.1 ([a3])).bind fun a4 =>
  (ck (p0.count+1)).bind fun a0 =>
  some (mosaic_Node.mk p0.spec p0.radars p0.horizon (upM p0.kept p1.Key a4) a0 p0.looks)
def Bo (F:Nat) (p0:mosaic_Node) (p1:mosaic_Message):Option (Bool×Int×mosaic_Node) :=
  (C8 F p0).bind fun a1 =>
  bif a1 then (some (false,1,p0)) else ((Ed F p0 p1).bind fun a0 =>
  bif (a0 != 0) then (some (false,a0,p0)) else (bif (decide (p1.Key.Time<p0.horizon)) then (some (false,17,p0)) else ((C9 F p0 p1).bind fun a2 =>
  bif a2.2 then (some (false,0,p0)) else (bif (decide (p0.count≥256)) then (some (false,13,p0)) else ((Fp F p0 p1).bind fun a3 =>
  some (true,0,a3))))))
def Hv (F:Nat) (p0:mosaic_Node) (p1:Int):Option Int :=
  (C8 F p0).bind fun a0 =>
  bif a0 then (some 1) else (bif (!(B7 p1 0 4294967296)) then (some 3) else (bif (decide (p1<p0.horizon)) then (some 17) else (some 0)))
def Bx (p0:ByteArray):Bool :=
  !(sEq p0 p0)
def C7 (p0:ByteArray) (p1:ByteArray):Int :=
  bif (Bx p0) then (bif (Bx p1) then (0) else (-1)) else (bif (Bx p1) then (1) else (bif (Ry p0 p1) then (-1) else (bif (Rx p0 p1) then (1) else (0))))
def Fv (F:Nat) (p0:Int):Option beam_slant :=
  (ck (p0*p0)).bind fun x2 =>
  (ck (262144-x2)).bind fun x3 =>
  (ck (1024*p0)).bind fun x4 =>
  (ck (p0*p0)).bind fun x5 =>
  (ck (262144+x5)).bind fun x6 =>
  some (beam_slant.mk x3 x4 x6)
def Kn (F:Nat) (p0:Int) (c0_:api_Site) (c1_:beam_slant):Option Int :=
  (ck (p0*c0_.Step)).bind fun x1 =>
  (ck (x1*c1_.c)).bind fun x2 =>
  (Q3 x2 c1_.d).bind fun x3 =>
  some x3
def N0 (a0:Int):Option Int :=
  some a0
def Mz (F:Nat) (p0:api_Site) (p2:Int) (y2:beam_slant) (k2:(Int→Int→Option Int)) (a0:Int) (a2:Int):Option Int :=
  (ck (a2-a0)).bind fun a3 =>
  bif (decide (a3>1)) then ((ck (a0+a2)).bind fun a4 =>
  (Q3 a4 2).bind fun a1 =>
  (Kn F a1 p0 y2).bind fun a6 =>
  (Kn F a1 p0 y2).bind fun a7 =>
  (ck (a6*a7)).bind fun a5 =>
  bif (decide (a5≤p2)) then (k2 a1 a2) else (k2 a0 a1)) else (N0 a0)
def L5 (F:Nat) (p0:api_Site) (p2:Int) (y2:beam_slant):Nat→Int→Int→Option Int
  | 0,_,_=>none
  | n+1,a0,a1=>Mz F p0 p2 y2 (L5 F p0 p2 y2 n) a0 a1
def Qz (F:Nat) (p0:api_Site) (p1:Int) (p2:Int):Option Int :=
  (Fv F p1).bind fun y2 =>
  (Kn F p0.Gates p0 y2).bind fun y4 =>
  (ck (y4*y4)).bind fun x5 =>
  bif (decide (p2≥x5)) then (some (-1)) else (L5 F p0 p2 y2 F 0 p0.Gates)
def Le (F:Nat) (p0:Int) (p1:Int):Option beam_vector :=
  (Qt p1 p0).bind fun x2 =>
  (ck (2*p0)).bind fun x3 =>
  (ck (x3*x2)).bind fun x4 =>
  (ck (p0*p0)).bind fun x5 =>
  (ck (x2*x2)).bind fun x6 =>
  (ck (x5-x6)).bind fun x7 =>
  (ck (p0*p0)).bind fun x8 =>
  (ck (x2*x2)).bind fun x9 =>
  (ck (x8+x9)).bind fun a0 =>
  (Q3 p1 p0).bind fun a1 =>
  bif (a1==0) then (some (beam_vector.mk x4 x7 a0)) else (bif (a1==1) then (bif (a1==0) then (some (beam_vector.mk x4 x7 a0)) else (some (beam_vector.mk x7 (IntKind.i64.wrap (0-x4)) a0))) else (bif (a1==0) then (some (beam_vector.mk x4 x7 a0)) else (bif (a1==2) then (bif (a1==0) then (some (beam_vector.mk x4 x7 a0)) else (some (beam_vector.mk (IntKind.i64.wrap (0-x4)) (IntKind.i64.wrap (0-x7)) a0))) else (bif (a1==0) then (some (beam_vector.mk x4 x7 a0)) else (bif (a1==3) then (bif (a1==0) then (some (beam_vector.mk x4 x7 a0)) else (some (beam_vector.mk (IntKind.i64.wrap (0-x7)) x4 a0))) else (bif (a1==0) then (some (beam_vector.mk x4 x7 a0)) else (none)))))))
def Jj (F:Nat) (p0:beam_vector) (p1:Int) (p2:Int):Option Bool :=
  (ck (p0.y*p1)).bind fun x2 =>
  (ck (p0.x*p2)).bind fun x3 =>
  some (decide (x2≥x3))
def Nm (p0:Int) (a0:Int) (a1:Int):Option Int :=
  (ck (a0*p0)).bind fun a2 =>
  (ck (a2+a1)).bind fun a3 =>
  some a3
def Nj (F:Nat) (p0:Int) (a3:Int) (a4:Int) (a5:Int) (k3:(Int→Int→Option Int)) (a0:Int) (a1:Int):Option Int :=
  (ck (a1-a0)).bind fun a6 =>
  bif (decide (a6>1)) then ((ck (a0+a1)).bind fun a7 =>
  (Q3 a7 2).bind fun a2 =>
  (Le F p0 a2).bind fun a8 =>
  (Jj F a8 a3 a4).bind fun a9 =>
  bif a9 then (k3 a2 a1) else (k3 a0 a2)) else (Nm p0 a5 a0)
def Lv (F:Nat) (p0:Int) (a0:Int) (a1:Int) (a2:Int):Nat→Int→Int→Option Int
  | 0,_,_=>none
  | n+1,a3,a4=>Nj F p0 a0 a1 a2 (Lv F p0 a0 a1 a2 n) a3 a4
def Nl (F:Nat) (p0:Int) (a0:Int) (a1:Int) (a2:Int):Option Int :=
  Lv F p0 a0 a1 a2 F 0 p0
def Nk (F:Nat) (p0:Int) (k4:(Int→Int→Int→Option Int)) (a0:Int) (a1:Int) (a2:Int):Option Int :=
  bif (bif (decide (a0<0)) then true else (decide (a1≤0))) then ((ck (a2+1)).bind fun a3 =>
  k4 (IntKind.i64.wrap (0-a1)) a0 a3) else (Nl F p0 a0 a1 a2)
def Lw (F:Nat) (p0:Int):Nat→Int→Int→Int→Option Int
  | 0,_,_,_=>none
  | n+1,a0,a1,a2=>Nk F p0 (Lw F p0 n) a0 a1 a2
def S8 (F:Nat) (p0:Int) (p1:Int) (p2:Int):Option Int :=
  Lw F p0 F p1 p2 0
def Qy (F:Nat) (p0:api_Site) (p1:Int) (p2:Int) (p3:Int):Option (Int×Int×Bool) :=
  (ck (p2-p0.X)).bind fun x2 =>
  (ck (p3-p0.Y)).bind fun x3 =>
  bif (bif (x2==0) then (x3==0) else false) then (some (0,0,true)) else ((ck (x2*x2)).bind fun x4 =>
  (ck (x3*x3)).bind fun x5 =>
  (ck (x4+x5)).bind fun x6 =>
  (Qz F p0 p1 x6).bind fun y7 =>
  bif (decide (y7<0)) then (some (0,0,false)) else ((S8 F p0.Rose x2 x3).bind fun y8 =>
  some (y8,y7,true)))
def Mw (a0:(List Int)):Option ((List Int)×Int) :=
  some (a0,0)
def Mx (a1:Int) (k2:((List Int)→Int→Option ((List Int)×Int))) (a0:(List Int)):Option ((List Int)×Int) :=
  (ck (a1+1)).bind fun a2 =>
  k2 a0 a2
def L1 (a0:(List Int)) (a2:Int) (k4:((List Int)→Int→Option ((List Int)×Int))) (a3:Int):Option ((List Int)×Int) :=
  (apd 8 a0 ([a3])).bind fun a1 =>
  (ck (a2+1)).bind fun a4 =>
  k4 a1 a4
def Mv (F:Nat) (p0:api_Site) (p1:Int) (p2:api_Grid) (a3:Int) (k2:((List Int)→Int→Option ((List Int)×Int))) (k4:((List Int)→Int→Option ((List Int)×Int))) (a1:(List Int)) (a0:Int):Option ((List Int)×Int) :=
  bif (decide (a0<p2.Wide)) then ((ck (a0*p2.Size)).bind fun a4 =>
  (ck (p2.X+a4)).bind fun a5 =>
  (Q3 p2.Size 2).bind fun a6 =>
  (ck (a5+a6)).bind fun a7 =>
  (ck (a3*p2.Size)).bind fun a8 =>
  (ck (p2.Y+a8)).bind fun a9 =>
  (Q3 p2.Size 2).bind fun aA =>
  (ck (a9+aA)).bind fun aB =>
  (Qy F p0 p1 a7 aB).bind fun a2 =>
  bif a2.2.2 then ((ck (a2.1*p0.Gates)).bind fun aC =>
  (ck (aC+a2.2.1)).bind fun aD =>
  L1 a1 a0 k4 aD) else (L1 a1 a0 k4 (-1))) else (Mx a3 k2 a1)
def L4 (F:Nat) (p0:api_Site) (p1:Int) (p2:api_Grid) (a0:Int) (k2:((List Int)→Int→Option ((List Int)×Int))):Nat→(List Int)→Int→Option ((List Int)×Int)
  | 0,_,_=>none
  | n+1,a1,a2=>Mv F p0 p1 p2 a0 k2 (L4 F p0 p1 p2 a0 k2 n) a1 a2
def Mu (F:Nat) (p0:api_Site) (p1:Int) (p2:api_Grid) (k2:((List Int)→Int→Option ((List Int)×Int))) (a0:(List Int)) (a1:Int):Option ((List Int)×Int) :=
  bif (decide (a1<p2.High)) then (L4 F p0 p1 p2 a1 k2 F a0 0) else (Mw a0)
def L2 (F:Nat) (p0:api_Site) (p1:Int) (p2:api_Grid):Nat→(List Int)→Int→Option ((List Int)×Int)
  | 0,_,_=>none
  | n+1,a0,a1=>Mu F p0 p1 p2 (L2 F p0 p1 p2 n) a0 a1
def P2 (F:Nat) (p0:api_Site) (p1:Int) (p2:api_Grid):Option ((List Int)×Int) :=
  (beam_CheckSite F p0).bind fun y3 =>
  bif (y3 != 0) then (some (([]:(List Int)),y3)) else (bif ((B8 p2) != 0) then (some (([]:(List Int)),(B8 p2))) else (bif (!(A5 p1 0 256)) then (some (([]:(List Int)),3)) else ((ck (p2.Wide*p2.High)).bind fun x4 =>
  (mk0 8 x4).bind fun c6 =>
  L2 F p0 p1 p2 F ([]:List Int) 0)))
def Gt (p0:api_Span):Bool :=
  bif (bif (decide (1000000≤p0.Lo)) then (decide (p0.Lo≤p0.Hi)) else false) then (decide (p0.Hi≤100000000)) else false
def Mb (F:Nat) (p0:Int) (p1:Int):Option Int :=
  (Q3 p0 p1).bind fun x1 =>
  (ck (x1*p1)).bind fun x2 =>
  bif (decide (x2>p0)) then ((ck (x1-1)).bind fun x3 =>
  some x3) else (some x1)
def Qe (F:Nat) (p0:Int) (p1:Int):Option Int :=
  (Q3 p0 p1).bind fun x1 =>
  (ck (x1*p1)).bind fun x2 =>
  bif (decide (x2<p0)) then ((ck (x1+1)).bind fun x3 =>
  some x3) else (some x1)
def K2 (F:Nat) (p0:api_Site) (p1:Int) (p2:Int):Option Int :=
  (Fv F p1).bind fun y2 =>
  (ck (2*p2)).bind fun x4 =>
  (ck (x4+1)).bind fun x5 =>
  (ck (x5*p0.Step)).bind fun x6 =>
  (ck (x6*y2.c)).bind fun x7 =>
  (ck (2*y2.d)).bind fun x8 =>
  (Mb F x7 x8).bind fun y9 =>
  some y9
def Kt (F:Nat) (p0:api_Site) (p1:Int) (p2:Int) (p3:Int):Option Int :=
  (Fv F p1).bind fun y2 =>
  (K2 F p0 p1 p2).bind fun y5 =>
  (ck (2*p2)).bind fun x6 =>
  (ck (x6+1)).bind fun x7 =>
  (ck (x7*p0.Step)).bind fun x8 =>
  (ck (x8*y2.s)).bind fun x9 =>
  (ck (2*y2.d)).bind fun a0 =>
  (ck (y5*y5)).bind fun a1 =>
  (ck (2*p3)).bind fun a2 =>
  (Mb F x9 a0).bind fun a5 =>
  (ck (p0.Z+a5)).bind fun a3 =>
  (Mb F a1 a2).bind fun a6 =>
  (ck (a3+a6)).bind fun a4 =>
  some a4
def K3 (F:Nat) (p0:api_Site) (p1:Int) (p2:Int):Option Int :=
  (Fv F p1).bind fun y2 =>
  (ck (2*p2)).bind fun x4 =>
  (ck (x4+1)).bind fun x5 =>
  (ck (x5*p0.Step)).bind fun x6 =>
  (ck (x6*y2.c)).bind fun x7 =>
  (ck (2*y2.d)).bind fun x8 =>
  (Qe F x7 x8).bind fun y9 =>
  some y9
def Ku (F:Nat) (p0:api_Site) (p1:Int) (p2:Int) (p3:Int):Option Int :=
  (Fv F p1).bind fun y2 =>
  (K3 F p0 p1 p2).bind fun y5 =>
  (ck (2*p2)).bind fun x6 =>
  (ck (x6+1)).bind fun x7 =>
  (ck (x7*p0.Step)).bind fun x8 =>
  (ck (x8*y2.s)).bind fun x9 =>
  (ck (2*y2.d)).bind fun a0 =>
  (ck (y5*y5)).bind fun a1 =>
  (ck (2*p3)).bind fun a2 =>
  (Qe F x9 a0).bind fun a5 =>
  (ck (p0.Z+a5)).bind fun a3 =>
  (Qe F a1 a2).bind fun a6 =>
  (ck (a3+a6)).bind fun a4 =>
  some a4
def Qx (F:Nat) (p0:api_Site) (p1:Int) (p2:api_Span) (p3:Int):Option (api_Span×Int) :=
  (beam_CheckSite F p0).bind fun y4 =>
  bif (y4 != 0) then (some ((api_Span.mk 0 0),y4)) else ((gd (((bif (!(A5 p1 0 256)) then true else (!(Gt p2)))==false&&true)) (ck (p0.Gates-1)) 0).bind fun x5 =>
  bif (bif (bif (!(A5 p1 0 256)) then true else (!(Gt p2))) then true else (!(A5 p3 0 x5))) then (some ((api_Span.mk 0 0),3)) else ((ck (p1-p0.Width)).bind fun x6 =>
  (ck (p1+p0.Width)).bind fun x7 =>
  (Kt F p0 x6 p3 p2.Hi).bind fun y9 =>
  (Ku F p0 x7 p3 p2.Lo).bind fun a0 =>
  some ((api_Span.mk y9 a0),0)))
def Gy (p0:mosaic_Node) (p1:mosaic_Key) (a0:(List api_Span)):Option ((List api_Span)×(List (mosaic_where×(List api_Span)))) :=
  some (a0,(upM p0.looks (mosaic_where.mk p1.Name p1.Tilt) a0))
def Ew (a0:(List api_Span)) (a2:Int) (k2:((List api_Span)→Int→Option ((List api_Span)×(List (mosaic_where×(List api_Span)))))) (a3:Int) (a4:Int):Option ((List api_Span)×(List (mosaic_where×(List api_Span)))) :=
  (apd 16 a0 ([(api_Span.mk a3 a4)])).bind fun a1 =>
  (ck (a2+1)).bind fun a5 =>
  k2 a1 a5
def Gx (F:Nat) (p0:mosaic_Node) (p1:mosaic_Key) (a4:((List Int)×Int)) (k2:((List api_Span)→Int→Option ((List api_Span)×(List (mosaic_where×(List api_Span)))))) (a1:(List api_Span)) (a0:Int):Option ((List api_Span)×(List (mosaic_where×(List api_Span)))) :=
  bif (decide (a0<((a4.1.length:Nat):Int))) then ((C0 a4.1 a0).bind fun a2 =>
  bif (decide (a2≥0)) then ((Qt a2 ((((lkM p0.radars p1.Name).getD (mosaic_Radar.mk (api_Site.mk ByteArray.empty 0 0 0 0 0 0 0) (api_Span.mk 0 0))).Site).Gates)).bind fun a5 =>
  (Qx F (api_Site.mk ((((lkM p0.radars p1.Name).getD (mosaic_Radar.mk (api_Site.mk ByteArray.empty 0 0 0 0 0 0 0) (api_Span.mk 0 0))).Site).Name) ((((lkM p0.radars p1.Name).getD (mosaic_Radar.mk (api_Site.mk ByteArray.empty 0 0 0 0 0 0 0) (api_Span.mk 0 0))).Site).X) ((((lkM p0.radars p1.Name).getD (mosaic_Radar.mk (api_Site.mk ByteArray.empty 0 0 0 0 0 0 0) (api_Span.mk 0 0))).Site).Y) ((((lkM p0.radars p1.Name).getD (mosaic_Radar.mk (api_Site.mk ByteArray.empty 0 0 0 0 0 0 0) (api_Span.mk 0 0))).Site).Z) ((((lkM p0.radars p1.Name).getD (mosaic_Radar.mk (api_Site.mk ByteArray.empty 0 0 0 0 0 0 0) (api_Span.mk 0 0))).Site).Rose) ((((lkM p0.radars p1.Name).getD (mosaic_Radar.mk (api_Site.mk ByteArray.empty 0 0 0 0 0 0 0) (api_Span.mk 0 0))).Site).Gates) ((((lkM p0.radars p1.Name).getD (mosaic_Radar.mk (api_Site.mk ByteArray.empty 0 0 0 0 0 0 0) (api_Span.mk 0 0))).Site).Step) ((((lkM p0.radars p1.Name).getD (mosaic_Radar.mk (api_Site.mk ByteArray.empty 0 0 0 0 0 0 0) (api_Span.mk 0 0))).Site).Width)) p1.Tilt p0.spec.Earth a5).bind fun a3 =>
  Ew a1 a0 k2 a3.1.Lo a3.1.Hi) else (Ew a1 a0 k2 1 0)) else (Gy p0 p1 a1)
def Ex (F:Nat) (p0:mosaic_Node) (p1:mosaic_Key) (a0:((List Int)×Int)):Nat→(List api_Span)→Int→Option ((List api_Span)×(List (mosaic_where×(List api_Span))))
  | 0,_,_=>none
  | n+1,a1,a2=>Gx F p0 p1 a0 (Ex F p0 p1 a0 n) a1 a2
def Jr (F:Nat) (p0:mosaic_Node) (p1:mosaic_Key):Option ((List api_Span)×(List (mosaic_where×(List api_Span)))) :=
  bif ((lkM p0.looks (mosaic_where.mk p1.Name p1.Tilt)).isSome) then (some (((lkM p0.looks (mosaic_where.mk p1.Name p1.Tilt)).getD []),p0.looks)) else ((P2 F (api_Site.mk ((((lkM p0.radars p1.Name).getD (mosaic_Radar.mk (api_Site.mk ByteArray.empty 0 0 0 0 0 0 0) (api_Span.mk 0 0))).Site).Name) ((((lkM p0.radars p1.Name).getD (mosaic_Radar.mk (api_Site.mk ByteArray.empty 0 0 0 0 0 0 0) (api_Span.mk 0 0))).Site).X) ((((lkM p0.radars p1.Name).getD (mosaic_Radar.mk (api_Site.mk ByteArray.empty 0 0 0 0 0 0 0) (api_Span.mk 0 0))).Site).Y) ((((lkM p0.radars p1.Name).getD (mosaic_Radar.mk (api_Site.mk ByteArray.empty 0 0 0 0 0 0 0) (api_Span.mk 0 0))).Site).Z) ((((lkM p0.radars p1.Name).getD (mosaic_Radar.mk (api_Site.mk ByteArray.empty 0 0 0 0 0 0 0) (api_Span.mk 0 0))).Site).Rose) ((((lkM p0.radars p1.Name).getD (mosaic_Radar.mk (api_Site.mk ByteArray.empty 0 0 0 0 0 0 0) (api_Span.mk 0 0))).Site).Gates) ((((lkM p0.radars p1.Name).getD (mosaic_Radar.mk (api_Site.mk ByteArray.empty 0 0 0 0 0 0 0) (api_Span.mk 0 0))).Site).Step) ((((lkM p0.radars p1.Name).getD (mosaic_Radar.mk (api_Site.mk ByteArray.empty 0 0 0 0 0 0 0) (api_Span.mk 0 0))).Site).Width)) p1.Tilt p0.spec.Grid).bind fun a0 =>
  Ex F p0 p1 a0 F ([]) 0)
def J2 (a0:(List (mosaic_where×(List api_Span)))) (a1:(List mosaic_used)):Option ((List mosaic_used)×(List (mosaic_where×(List api_Span)))) :=
  some (a1,a0)
def Fz (a2:Int) (k3:((List (mosaic_where×(List api_Span)))→Int→(List mosaic_used)→Option ((List mosaic_used)×(List (mosaic_where×(List api_Span)))))) (a0:(List (mosaic_where×(List api_Span)))) (a1:(List mosaic_used)):Option ((List mosaic_used)×(List (mosaic_where×(List api_Span)))) :=
  (ck (a2+1)).bind fun a3 =>
  k3 a0 a3 a1
def Hw (F:Nat) (p0:mosaic_Node) (a4:(List (mosaic_where×mosaic_Key))) (a5:(List mosaic_Key)) (k3:((List (mosaic_where×(List api_Span)))→Int→(List mosaic_used)→Option ((List mosaic_used)×(List (mosaic_where×(List api_Span)))))) (a2:(List (mosaic_where×(List api_Span)))) (a1:Int) (a3:(List mosaic_used)):Option ((List mosaic_used)×(List (mosaic_where×(List api_Span)))) :=
  bif (decide (a1<((a5.length:Nat):Int))) then ((C0 a5 a1).bind fun a0 =>
  bif (((((lkM a4 (mosaic_where.mk a0.Name a0.Tilt)).getD (mosaic_Key.mk ByteArray.empty 0 0)).Name)==a0.Name)&&(((((lkM a4 (mosaic_where.mk a0.Name a0.Tilt)).getD (mosaic_Key.mk ByteArray.empty 0 0)).Tilt:Int)==a0.Tilt)&&(((((lkM a4 (mosaic_where.mk a0.Name a0.Tilt)).getD (mosaic_Key.mk ByteArray.empty 0 0)).Time:Int)==a0.Time)&&true))) then ((C0 ((lkM p0.kept a0).getD []) 0).bind fun a8 =>
  (Jr F (mosaic_Node.mk p0.spec p0.radars p0.horizon p0.kept p0.count a2) a0).bind fun a6 =>
  (apd 80 a3 ([(mosaic_used.mk a0 a8 a6.1)])).bind fun a7 =>
  Fz a1 k3 a6.2 a7) else (Fz a1 k3 a2 a3)) else (J2 a2 a3)
def G1 (F:Nat) (p0:mosaic_Node) (a0:(List (mosaic_where×mosaic_Key))) (a1:(List mosaic_Key)):Nat→(List (mosaic_where×(List api_Span)))→Int→(List mosaic_used)→Option ((List mosaic_used)×(List (mosaic_where×(List api_Span))))
  | 0,_,_,_=>none
  | n+1,a2,a4,a3=>Hw F p0 a0 a1 (G1 F p0 a0 a1 n) a2 a4 a3
def J1 (F:Nat) (p0:mosaic_Node) (a0:(List (mosaic_where×mosaic_Key))):Option ((List mosaic_used)×(List (mosaic_where×(List api_Span)))) :=
  (Gv F p0).bind fun a1 =>
  G1 F p0 a0 a1 F p0.looks 0 ([])
def G0 (a1:Int) (k5:((List (mosaic_where×mosaic_Key))→Int→Option ((List mosaic_used)×(List (mosaic_where×(List api_Span)))))) (a0:(List (mosaic_where×mosaic_Key))):Option ((List mosaic_used)×(List (mosaic_where×(List api_Span)))) :=
  (ck (a1+1)).bind fun a2 =>
  k5 a0 a2
def J0 (F:Nat) (p0:mosaic_Node) (p1:Int) (a4:(List mosaic_Key)) (k5:((List (mosaic_where×mosaic_Key))→Int→Option ((List mosaic_used)×(List (mosaic_where×(List api_Span)))))) (a2:(List (mosaic_where×mosaic_Key))) (a1:Int):Option ((List mosaic_used)×(List (mosaic_where×(List api_Span)))) :=
  bif (decide (a1<((a4.length:Nat):Int))) then ((C0 a4 a1).bind fun a0 =>
  (gd (((((((lkM p0.kept a0).getD []).length:Nat):Int)==1)==true&&true)) (ck (a0.Time+((((lkM p0.radars a0.Name).getD (mosaic_Radar.mk (api_Site.mk ByteArray.empty 0 0 0 0 0 0 0) (api_Span.mk 0 0))).Offset).Hi))) 0).bind fun a3 =>
  (gd (((bif (((((lkM p0.kept a0).getD []).length:Nat):Int)==1) then (decide (a3≤p1)) else false)==true&&true)) (ck (p1-a0.Time)) 0).bind fun a5 =>
  (gd (((bif (((((lkM p0.kept a0).getD []).length:Nat):Int)==1) then (decide (a3≤p1)) else false)==true&&true)) (ck (a5-((((lkM p0.radars a0.Name).getD (mosaic_Radar.mk (api_Site.mk ByteArray.empty 0 0 0 0 0 0 0) (api_Span.mk 0 0))).Offset).Lo))) 0).bind fun a6 =>
  bif (bif (bif (((((lkM p0.kept a0).getD []).length:Nat):Int)==1) then (decide (a3≤p1)) else false) then (decide (a6≤p0.spec.Age)) else false) then (G0 a1 k5 (upM a2 (mosaic_where.mk a0.Name a0.Tilt) a0)) else (G0 a1 k5 a2)) else (J1 F p0 a2)
def G3 (F:Nat) (p0:mosaic_Node) (p1:Int) (a0:(List mosaic_Key)):Nat→(List (mosaic_where×mosaic_Key))→Int→Option ((List mosaic_used)×(List (mosaic_where×(List api_Span))))
  | 0,_,_=>none
  | n+1,a1,a2=>J0 F p0 p1 a0 (G3 F p0 p1 a0 n) a1 a2
def Kx (F:Nat) (p0:mosaic_Node) (p1:Int):Option ((List mosaic_used)×(List (mosaic_where×(List api_Span)))) :=
  (Gv F p0).bind fun a0 =>
  G3 F p0 p1 a0 F ([]:List (mosaic_where×mosaic_Key)) 0
def Ly (p0:api_Span):Bool :=
  decide (p0.Lo≤p0.Hi)
def Hf (a1:((List mosaic_used)×(List (mosaic_where×(List api_Span))))) (a0:(List mosaic_Pixel)):Option ((List mosaic_Pixel)×Int×(List (mosaic_where×(List api_Span)))) :=
  some (a0,0,a1.2)
def Hg (a1:Int) (k2:(Int→(List mosaic_Pixel)→Option ((List mosaic_Pixel)×Int×(List (mosaic_where×(List api_Span)))))) (a0:(List mosaic_Pixel)):Option ((List mosaic_Pixel)×Int×(List (mosaic_where×(List api_Span)))) :=
  (ck (a1+1)).bind fun a2 =>
  k2 a2 a0
def F8 (a3:Int) (a0:(List mosaic_Pixel)) (k2:(Int→(List mosaic_Pixel)→Option ((List mosaic_Pixel)×Int×(List (mosaic_where×(List api_Span)))))) (a4:Int) (a5:Int) (a2:ByteArray) (a6:Int) (a7:Int):Option ((List mosaic_Pixel)×Int×(List (mosaic_where×(List api_Span)))) :=
  (apd 48 a0 ([(mosaic_Pixel.mk (api_Span.mk a4 a5) (mosaic_Key.mk a2 a6 a7))])).bind fun a1 =>
  Hg a3 k2 a1
def Hh (a5:((List mosaic_used)×(List (mosaic_where×(List api_Span))))) (a1:Int) (a2:(List mosaic_Pixel)) (k2:(Int→(List mosaic_Pixel)→Option ((List mosaic_Pixel)×Int×(List (mosaic_where×(List api_Span)))))) (a4:Int):Option ((List mosaic_Pixel)×Int×(List (mosaic_where×(List api_Span)))) :=
  bif (decide (a4<0)) then (F8 a1 a2 k2 0 1000000 ByteArray.empty 0 0) else ((C0 a5.1 a4).bind fun a0 =>
  (C0 a0.vals a1).bind fun a3 =>
  F8 a1 a2 k2 a3.Lo a3.Hi a0.Key.Name a0.Key.Tilt a0.Key.Time)
def D4 (a0:Int) (k6:(Int→Int→Option ((List mosaic_Pixel)×Int×(List (mosaic_where×(List api_Span)))))) (a1:Int):Option ((List mosaic_Pixel)×Int×(List (mosaic_where×(List api_Span)))) :=
  (ck (a0+1)).bind fun a2 =>
  k6 a1 a2
def He (F:Nat) (a5:((List mosaic_used)×(List (mosaic_where×(List api_Span))))) (a2:Int) (a6:(List mosaic_Pixel)) (k2:(Int→(List mosaic_Pixel)→Option ((List mosaic_Pixel)×Int×(List (mosaic_where×(List api_Span)))))) (k6:(Int→Int→Option ((List mosaic_Pixel)×Int×(List (mosaic_where×(List api_Span)))))) (a4:Int) (a0:Int):Option ((List mosaic_Pixel)×Int×(List (mosaic_where×(List api_Span)))) :=
  bif (decide (a0<((a5.1.length:Nat):Int))) then ((C0 a5.1 a0).bind fun a1 =>
  (C0 a1.bands a2).bind fun a7 =>
  bif (!(Ly a7)) then (D4 a0 k6 a4) else (bif (decide (a4<0)) then (D4 a0 k6 a0) else ((C0 a5.1 a4).bind fun a3 =>
  (C0 a1.bands a2).bind fun a8 =>
  (C0 a3.bands a2).bind fun a9 =>
  (C0 a1.bands a2).bind fun aA =>
  (C0 a3.bands a2).bind fun aB =>
  (Lg F ([(Ae a8.Hi a9.Hi),(Ae aA.Lo aB.Lo),(Ae a3.Key.Time a1.Key.Time),(C7 a1.Key.Name a3.Key.Name),(Ae a1.Key.Tilt a3.Key.Tilt)])).bind fun aC =>
  bif (decide (aC<0)) then (D4 a0 k6 a0) else (D4 a0 k6 a4)))) else (Hh a5 a2 a6 k2 a4)
def Fa (F:Nat) (a2:((List mosaic_used)×(List (mosaic_where×(List api_Span))))) (a1:Int) (a0:(List mosaic_Pixel)) (k2:(Int→(List mosaic_Pixel)→Option ((List mosaic_Pixel)×Int×(List (mosaic_where×(List api_Span)))))):Nat→Int→Int→Option ((List mosaic_Pixel)×Int×(List (mosaic_where×(List api_Span))))
  | 0,_,_=>none
  | n+1,a3,a4=>He F a2 a1 a0 k2 (Fa F a2 a1 a0 k2 n) a3 a4
def Hc (F:Nat) (a2:((List mosaic_used)×(List (mosaic_where×(List api_Span))))) (a3:Int) (k2:(Int→(List mosaic_Pixel)→Option ((List mosaic_Pixel)×Int×(List (mosaic_where×(List api_Span)))))) (a1:Int) (a0:(List mosaic_Pixel)):Option ((List mosaic_Pixel)×Int×(List (mosaic_where×(List api_Span)))) :=
  bif (decide (a1<a3)) then (Fa F a2 a1 a0 k2 F (-1) 0) else (Hf a2 a0)
def F9 (F:Nat) (a1:((List mosaic_used)×(List (mosaic_where×(List api_Span))))) (a0:Int):Nat→Int→(List mosaic_Pixel)→Option ((List mosaic_Pixel)×Int×(List (mosaic_where×(List api_Span))))
  | 0,_,_=>none
  | n+1,a3,a2=>Hc F a1 a0 (F9 F a1 a0 n) a3 a2
def Kc (F:Nat) (p0:mosaic_Node) (p1:Int):Option ((List mosaic_Pixel)×Int×(List (mosaic_where×(List api_Span)))) :=
  (Hv F p0 p1).bind fun a0 =>
  bif (a0 != 0) then (some (([]:(List mosaic_Pixel)),a0,p0.looks)) else ((Kx F p0 p1).bind fun a2 =>
  (ck (p0.spec.Grid.Wide*p0.spec.Grid.High)).bind fun a1 =>
  F9 F a2 a1 F 0 ([]))
def Ab (p0:Int):api_Span :=
  (api_Span.mk p0 p0)
def law11_S:mosaic_Spec :=
  (mosaic_Spec.mk (api_Grid.mk (-2000) (-1000) 1000 4 2) (Ab 8000000) ([(mosaic_Radar.mk (api_Site.mk (⟨#[97]⟩:ByteArray) (-1500) (-500) 100 1 3 1000 0) (api_Span.mk 0 0)),(mosaic_Radar.mk (api_Site.mk (⟨#[98]⟩:ByteArray) 1500 (-500) 100 1 3 1000 0) (api_Span.mk 5 10))]) 600)
def K7 (p0:ByteArray) (p1:Int) (a0:(List api_Span)):Option mosaic_Message :=
  some (mosaic_Message.mk (mosaic_Key.mk p0 0 p1) a0)
def K6 (p0:ByteArray) (p1:Int) (p2:Int) (k2:((List api_Span)→Int→Option mosaic_Message)) (a0:(List api_Span)) (a1:Int):Option mosaic_Message :=
  bif (decide (a1<8)) then ((apd 16 a0 ([(Ab p2)])).bind fun a2 =>
  (ck (a1+1)).bind fun a3 =>
  k2 a2 a3) else (K7 p0 p1 a0)
def H5 (p0:ByteArray) (p1:Int) (p2:Int):Nat→(List api_Span)→Int→Option mosaic_Message
  | 0,_,_=>none
  | n+1,a0,a1=>K6 p0 p1 p2 (H5 p0 p1 p2 n) a0 a1
def Kg (F:Nat) (p0:ByteArray) (p1:Int) (p2:Int):Option mosaic_Message :=
  H5 p0 p1 p2 F ([]) 0
def E7 (F:Nat):Option Bool :=
  (Gw F (mosaic_Spec.mk (api_Grid.mk law11_S.Grid.X law11_S.Grid.Y law11_S.Grid.Size law11_S.Grid.Wide law11_S.Grid.High) (api_Span.mk law11_S.Earth.Lo law11_S.Earth.Hi) law11_S.Radars law11_S.Age)).bind fun y7 =>
  exc y7 (fun a7=>bif (a7 != 0) then (some false) else (none)) (fun a2=>bif (a2.2 != 0) then (some false) else ((Kg F (⟨#[97]⟩:ByteArray) 100 5).bind fun a8 =>
  (Bo F (mosaic_Node.mk (mosaic_Spec.mk (api_Grid.mk a2.1.spec.Grid.X a2.1.spec.Grid.Y a2.1.spec.Grid.Size a2.1.spec.Grid.Wide a2.1.spec.Grid.High) (api_Span.mk a2.1.spec.Earth.Lo a2.1.spec.Earth.Hi) a2.1.spec.Radars a2.1.spec.Age) a2.1.radars a2.1.horizon a2.1.kept a2.1.count a2.1.looks) a8).bind fun a0 =>
  (Kg F (⟨#[98]⟩:ByteArray) 100 7).bind fun a9 =>
  (Bo F (mosaic_Node.mk (mosaic_Spec.mk (api_Grid.mk a0.2.2.spec.Grid.X a0.2.2.spec.Grid.Y a0.2.2.spec.Grid.Size a0.2.2.spec.Grid.Wide a0.2.2.spec.Grid.High) (api_Span.mk a0.2.2.spec.Earth.Lo a0.2.2.spec.Earth.Hi) a0.2.2.spec.Radars a0.2.2.spec.Age) a0.2.2.radars a0.2.2.horizon a0.2.2.kept a0.2.2.count a0.2.2.looks) a9).bind fun a1 =>
  (Kc F (mosaic_Node.mk (mosaic_Spec.mk (api_Grid.mk a1.2.2.spec.Grid.X a1.2.2.spec.Grid.Y a1.2.2.spec.Grid.Size a1.2.2.spec.Grid.Wide a1.2.2.spec.Grid.High) (api_Span.mk a1.2.2.spec.Earth.Lo a1.2.2.spec.Earth.Hi) a1.2.2.spec.Radars a1.2.2.spec.Age) a1.2.2.radars a1.2.2.horizon a1.2.2.kept a1.2.2.count a1.2.2.looks) 110).bind fun a3 =>
  (gd (((bif (bif (bif (bif (bif a0.1 then a1.1 else false) then (a0.2.1==0) else false) then (a1.2.1==0) else false) then (a3.2.1==0) else false) then (((a3.1.length:Nat):Int)==8) else false)==true&&true)) (C0 a3.1 0) default).bind fun a4 =>
  (gd (((bif (bif (bif (bif (bif (bif a0.1 then a1.1 else false) then (a0.2.1==0) else false) then (a1.2.1==0) else false) then (a3.2.1==0) else false) then (((a3.1.length:Nat):Int)==8) else false) then (((a4.Value_.Lo:Int)==(Ab 5).Lo)&&(((a4.Value_.Hi:Int)==(Ab 5).Hi)&&true)) else false)==true&&true)) (C0 a3.1 2) default).bind fun a5 =>
  (gd (((bif (bif (bif (bif (bif (bif (bif a0.1 then a1.1 else false) then (a0.2.1==0) else false) then (a1.2.1==0) else false) then (a3.2.1==0) else false) then (((a3.1.length:Nat):Int)==8) else false) then (((a4.Value_.Lo:Int)==(Ab 5).Lo)&&(((a4.Value_.Hi:Int)==(Ab 5).Hi)&&true)) else false) then ((a5.Key.Name==(⟨#[97]⟩:ByteArray))&&(((a5.Key.Tilt:Int)==0)&&(((a5.Key.Time:Int)==100)&&true))) else false)==true&&true)) (C0 a3.1 3) default).bind fun a6 =>
  some (bif (bif (bif (bif (bif (bif (bif (bif a0.1 then a1.1 else false) then (a0.2.1==0) else false) then (a1.2.1==0) else false) then (a3.2.1==0) else false) then (((a3.1.length:Nat):Int)==8) else false) then (((a4.Value_.Lo:Int)==(Ab 5).Lo)&&(((a4.Value_.Hi:Int)==(Ab 5).Hi)&&true)) else false) then ((a5.Key.Name==(⟨#[97]⟩:ByteArray))&&(((a5.Key.Tilt:Int)==0)&&(((a5.Key.Time:Int)==100)&&true))) else false) then ((((a6.Value_.Lo:Int)==(Ab 7).Lo)&&(((a6.Value_.Hi:Int)==(Ab 7).Hi)&&true))&&(((a6.Key.Name==(⟨#[98]⟩:ByteArray))&&(((a6.Key.Tilt:Int)==0)&&(((a6.Key.Time:Int)==100)&&true)))&&true)) else false)))
def Fe (a0:(List mosaic_Message)):Option (List mosaic_Message) :=
  some a0
def Ff (a1:Int) (k2:(Int→(List mosaic_Message)→Option (List mosaic_Message))) (a0:(List mosaic_Message)):Option (List mosaic_Message) :=
  (ck (a1+1)).bind fun a2 =>
  k2 a2 a0
def Fc (F:Nat) (p0:mosaic_Node) (a5:Int) (k2:(Int→(List mosaic_Message)→Option (List mosaic_Message))) (a0:mosaic_Key) (k4:(Int→(List mosaic_Message)→Option (List mosaic_Message))) (a1:Int) (a2:(List mosaic_Message)):Option (List mosaic_Message) :=
  bif (decide (a1<((((lkM p0.kept a0).getD []).length:Nat):Int))) then ((C0 ((lkM p0.kept a0).getD []) a1).bind fun a4 =>
  (B5 F a4).bind fun a7 =>
  (apd 56 a2 ([(mosaic_Message.mk a0 a7)])).bind fun a3 =>
  (ck (a1+1)).bind fun a6 =>
  k4 a6 a3) else (Ff a5 k2 a2)
def D5 (F:Nat) (p0:mosaic_Node) (a1:Int) (k2:(Int→(List mosaic_Message)→Option (List mosaic_Message))) (a0:mosaic_Key):Nat→Int→(List mosaic_Message)→Option (List mosaic_Message)
  | 0,_,_=>none
  | n+1,a3,a2=>Fc F p0 a1 k2 a0 (D5 F p0 a1 k2 a0 n) a3 a2
def Fb (F:Nat) (p0:mosaic_Node) (a2:(List mosaic_Key)) (k2:(Int→(List mosaic_Message)→Option (List mosaic_Message))) (a0:Int) (a1:(List mosaic_Message)):Option (List mosaic_Message) :=
  bif (decide (a0<((a2.length:Nat):Int))) then ((C0 a2 a0).bind fun a3 =>
  D5 F p0 a0 k2 a3 F 0 a1) else (Fe a1)
def Cg (F:Nat) (p0:mosaic_Node) (a0:(List mosaic_Key)):Nat→Int→(List mosaic_Message)→Option (List mosaic_Message)
  | 0,_,_=>none
  | n+1,a2,a1=>Fb F p0 a0 (Cg F p0 a0 n) a2 a1
def Fm (F:Nat) (p0:mosaic_Node):Option (List mosaic_Message) :=
  (Gv F p0).bind fun a0 =>
  Cg F p0 a0 F 0 ([])
def N8:Option Bool :=
  some true
def L7 (p0:mosaic_Spec) (k2:(Int→Option Bool)) (a0:Int):Option Bool :=
  bif (decide (a0<((p0.Radars.length:Nat):Int))) then ((C0 p0.Radars a0).bind fun a1 =>
  bif (decide (((a1.Site.Name.size:Nat):Int)>40)) then (some false) else ((ck (a0+1)).bind fun a2 =>
  k2 a2)) else (N8)
def H4 (p0:mosaic_Spec):Nat→Int→Option Bool
  | 0,_=>none
  | n+1,a0=>L7 p0 (H4 p0 n) a0
def Mi (F:Nat) (p0:mosaic_Spec):Option Bool :=
  bif (bif (bif (bif (decide (p0.Grid.Wide>6)) then true else (decide (p0.Grid.High>6))) then true else (bif (decide (((p0.Radars.length:Nat):Int)>5)) then (decide (((p0.Radars.length:Nat):Int)≤32)) else false)) then true else (decide (((p0.Radars.length:Nat):Int)>100))) then (some false) else (H4 p0 F 0)
def Ak (p0:Int) (p1:Int) (p2:Int):Bool :=
  bif (decide (p0≥p1)) then (decide (p0≤p2)) else false
def Cn (p0:api_Grid):Int :=
  bif (bif (bif (bif (bif (!(Ak p0.X (-1048576) 1048576)) then true else (!(Ak p0.Y (-1048576) 1048576))) then true else (!(Ak p0.Size 1 10000))) then true else (!(Ak p0.Wide 1 64))) then true else (!(Ak p0.High 1 64))) then (3) else (0)
def E8 (p0:api_Span) (p1:Int) (p2:Int):Bool :=
  bif (bif (decide (p0.Lo≤p0.Hi)) then (decide (p0.Lo≥p1)) else false) then (decide (p0.Hi≤p2)) else false
def Jd (p0:api_Span):Bool :=
  (E8 p0 1000000 100000000)
def Kl:Option Bool :=
  some true
def Kk (p0:ByteArray) (k2:(Int→Option Bool)) (a1:Int):Option Bool :=
  bif (decide (a1<((p0.size:Nat):Int))) then ((Pe p0 a1).bind fun a0 =>
  bif (bif (bif (bif (decide (a0<97)) then true else (decide (a0>122))) then (bif (decide (a0<48)) then true else (decide (a0>57))) else false) then (a0 != 95) else false) then (some false) else ((ck (a1+1)).bind fun a2 =>
  k2 a2)) else (Kl)
def Gk (p0:ByteArray):Nat→Int→Option Bool
  | 0,_=>none
  | n+1,a0=>Kk p0 (Gk p0 n) a0
def Ll (F:Nat) (p0:ByteArray):Option Bool :=
  (gd (((bif (decide (((p0.size:Nat):Int)<1)) then true else (decide (((p0.size:Nat):Int)>12)))==false&&true)) (Pe p0 (0:Int)) default).bind fun u1 =>
  (gd (((bif (bif (decide (((p0.size:Nat):Int)<1)) then true else (decide (((p0.size:Nat):Int)>12))) then true else (decide (u1<97)))==false&&true)) (Pe p0 (0:Int)) default).bind fun u2 =>
  bif (bif (bif (bif (decide (((p0.size:Nat):Int)<1)) then true else (decide (((p0.size:Nat):Int)>12))) then true else (decide (u1<97))) then true else (decide (u2>122))) then (some false) else (Gk p0 F 0)
def Eo (F:Nat) (p0:api_Site):Option Int :=
  (Ll F p0.Name).bind fun y2 =>
  bif (!y2) then (some 10) else (bif (bif (bif (bif (bif (bif (bif (!(Ak p0.X (-1048576) 1048576)) then true else (!(Ak p0.Y (-1048576) 1048576))) then true else (!(Ak p0.Z 0 20000))) then true else (!(Ak p0.Rose 1 90))) then true else (!(Ak p0.Gates 1 200))) then true else (!(Ak p0.Step 50 2000))) then true else (!(Ak p0.Width 0 8))) then (some 3) else (some 0))
def Ln:Option Int :=
  some 0
def Ju (a0:Int) (k2:(Int→Option Int)):Option Int :=
  (ck (a0+1)).bind fun a1 =>
  k2 a1
def H3 (a1:Int) (k2:(Int→Option Int)) (a0:ref11_Radar):Option Int :=
  bif (!(E8 a0.Offset (-3600) 3600)) then (some 3) else (Ju a1 k2)
def Jt (p0:ref11_Spec) (a2:Int) (k2:(Int→Option Int)) (a1:ref11_Radar) (k5:(Int→Option Int)) (a0:Int):Option Int :=
  bif (decide (a0<a2)) then ((C0 p0.Radars a0).bind fun a3 =>
  bif (sEq a3.Site.Name a1.Site.Name) then (some 5) else ((ck (a0+1)).bind fun a4 =>
  k5 a4)) else (H3 a2 k2 a1)
def Ee (p0:ref11_Spec) (a1:Int) (k2:(Int→Option Int)) (a0:ref11_Radar):Nat→Int→Option Int
  | 0,_=>none
  | n+1,a2=>Jt p0 a1 k2 a0 (Ee p0 a1 k2 a0 n) a2
def Js (F:Nat) (p0:ref11_Spec) (k2:(Int→Option Int)) (a0:Int):Option Int :=
  bif (decide (a0<((p0.Radars.length:Nat):Int))) then ((C0 p0.Radars a0).bind fun a1 =>
  (Eo F a1.Site).bind fun a2 =>
  bif (a2 != 0) then (some a2) else (Ee p0 a0 k2 a1 F 0)) else (Ln)
def Dp (F:Nat) (p0:ref11_Spec):Nat→Int→Option Int
  | 0,_=>none
  | n+1,a0=>Js F p0 (Dp F p0 n) a0
def Je (F:Nat) (p0:ref11_Spec):Option Int :=
  bif ((Cn p0.Grid) != 0) then (some (Cn p0.Grid)) else (bif (bif (!(Jd p0.Earth)) then true else (!(Ak p0.Age 1 86400))) then (some 3) else (bif (((p0.Radars.length:Nat):Int)==0) then (some 18) else (bif (decide (((p0.Radars.length:Nat):Int)>32)) then (some 9) else (Dp F p0 F 0))))
def Kd (F:Nat) (p0:ref11_Spec):Option (Except Int (ref11_Node×Int)) :=
  (Je F p0).bind fun y5 =>
  bif (y5 != 0) then (some (.error y5)) else ((apd 88 ([]:List ref11_Radar) p0.Radars).bind fun l7 =>
  some (.ok ((ref11_Node.mk (ref11_Spec.mk p0.Grid p0.Earth l7 p0.Age) 0 ([]:(List ref11_Message))),0)))
def Ki (p0:mosaic_Spec) (a0:(List ref11_Radar)):Option ref11_Spec :=
  some (ref11_Spec.mk p0.Grid p0.Earth a0 p0.Age)
def Kh (p0:mosaic_Spec) (k2:((List ref11_Radar)→Int→Option ref11_Spec)) (a1:(List ref11_Radar)) (a0:Int):Option ref11_Spec :=
  bif (decide (a0<((p0.Radars.length:Nat):Int))) then ((C0 p0.Radars a0).bind fun a2 =>
  (apd 88 a1 ([(ref11_Radar.mk a2.Site a2.Offset)])).bind fun a3 =>
  (ck (a0+1)).bind fun a4 =>
  k2 a3 a4) else (Ki p0 a1)
def Gi (p0:mosaic_Spec):Nat→(List ref11_Radar)→Int→Option ref11_Spec
  | 0,_,_=>none
  | n+1,a0,a1=>Kh p0 (Gi p0 n) a0 a1
def Li (F:Nat) (p0:mosaic_Spec):Option ref11_Spec :=
  Gi p0 F ([]) 0
def Gz:Option (ref11_Radar×Bool) :=
  some ((ref11_Radar.mk (api_Site.mk ByteArray.empty 0 0 0 0 0 0 0) (api_Span.mk 0 0)),false)
def Ey (p0:(Option ref11_Node)) (p1:ByteArray) (k2:(Int→Option (ref11_Radar×Bool))) (a0:Int):Option (ref11_Radar×Bool) :=
  (p0).bind fun a1 =>
  bif (decide (a0<((a1.s.Radars.length:Nat):Int))) then ((C0 a1.s.Radars a0).bind fun a2 =>
  bif (sEq a2.Site.Name p1) then ((C0 a1.s.Radars a0).bind fun a3 =>
  some (a3,true)) else ((ck (a0+1)).bind fun a4 =>
  k2 a4)) else (Gz)
def Cr (p0:(Option ref11_Node)) (p1:ByteArray):Nat→Int→Option (ref11_Radar×Bool)
  | 0,_=>none
  | n+1,a0=>Ey p0 p1 (Cr p0 p1 n) a0
def Gs (F:Nat) (p0:(Option ref11_Node)) (p1:ByteArray):Option (ref11_Radar×Bool) :=
  Cr p0 p1 F 0
def Fl (a0:(List Int)) (a2:Int):Option (List Int) :=
  (apd 1 a0 ([IntKind.u8.wrap a2])).bind fun a1 =>
  some a1
def Fk (k2:((List Int)→Int→Option (List Int))) (a1:(List Int)) (a0:Int):Option (List Int) :=
  bif (decide (a0≥128)) then ((Qt a0 128).bind fun a3 =>
  (ck (a3+128)).bind fun a4 =>
  (apd 1 a1 ([IntKind.u8.wrap a4])).bind fun a2 =>
  (Q3 a0 128).bind fun a5 =>
  k2 a2 a5) else (Fl a1 a0)
def Db:Nat→(List Int)→Int→Option (List Int)
  | 0,_,_=>none
  | n+1,a0,a1=>Fk (Db n) a0 a1
def Cv (F:Nat) (p0:(List Int)) (p1:Int):Option (List Int) :=
  Db F p0 p1
def Hp (a0:Int):Option (List Int) :=
  some ([IntKind.u8.wrap (Int.fdiv a0 16777216),IntKind.u8.wrap (Int.fdiv a0 65536),IntKind.u8.wrap (Int.fdiv a0 256),IntKind.u8.wrap a0])
def Ho (p0:(List Int)) (k2:(Int→Int→Option (List Int))) (a1:Int) (a0:Int):Option (List Int) :=
  bif (decide (a0<((p0.length:Nat):Int))) then ((C0 p0 a0).bind fun a2 =>
  (ck (a0+1)).bind fun a3 =>
  k2 (IntKind.u32.wrap ((IntKind.u32.wrap ((IntKind.u32.wrap (31*a1))+(IntKind.u32.wrap a2)))+1)) a3) else (Hp a1)
def El (p0:(List Int)):Nat→Int→Int→Option (List Int)
  | 0,_,_=>none
  | n+1,a0,a1=>Ho p0 (El p0 n) a0 a1
def L9 (F:Nat) (p0:(List Int)):Option (List Int) :=
  El p0 F 1 0
def Cl (F:Nat) (a0:(List Int)):Option (List Int) :=
  (L9 F a0).bind fun a2 =>
  (apd 1 a0 a2).bind fun a1 =>
  some a1
def Dl (a1:Int) (k2:(Int→(List Int)→Option (List Int))) (a0:(List Int)):Option (List Int) :=
  (ck (a1+1)).bind fun a2 =>
  k2 a2 a0
def Dk (F:Nat) (a4:Int) (k2:(Int→(List Int)→Option (List Int))) (a3:mosaic_Message) (k4:((List Int)→Int→Option (List Int))) (a2:(List Int)) (a1:Int):Option (List Int) :=
  bif (decide (a1<((a3.Vals.length:Nat):Int))) then ((C0 a3.Vals a1).bind fun a0 =>
  (ck (a0.Hi-a0.Lo)).bind fun a5 =>
  (Cv F a2 a0.Lo).bind fun a7 =>
  (Cv F a7 a5).bind fun a8 =>
  (ck (a1+1)).bind fun a6 =>
  k4 a8 a6) else (Dl a4 k2 a2)
def By (F:Nat) (a1:Int) (k2:(Int→(List Int)→Option (List Int))) (a0:mosaic_Message):Nat→(List Int)→Int→Option (List Int)
  | 0,_,_=>none
  | n+1,a2,a3=>Dk F a1 k2 a0 (By F a1 k2 a0 n) a2 a3
def Dj (F:Nat) (a3:(List mosaic_Message)) (k2:(Int→(List Int)→Option (List Int))) (a1:Int) (a2:(List Int)):Option (List Int) :=
  bif (decide (a1<((a3.length:Nat):Int))) then ((C0 a3 a1).bind fun a0 =>
  (Cv F a2 ((a0.Key.Name.size:Nat):Int)).bind fun a5 =>
  (apd 1 a5 (sby a0.Key.Name)).bind fun a4 =>
  (Cv F a4 a0.Key.Tilt).bind fun a6 =>
  (Cv F a6 a0.Key.Time).bind fun a7 =>
  By F a1 k2 a0 F a7 0) else (Cl F a2)
def Bp (F:Nat) (a0:(List mosaic_Message)):Nat→Int→(List Int)→Option (List Int)
  | 0,_,_=>none
  | n+1,a2,a1=>Dj F a0 (Bp F a0 n) a2 a1
def Ba (F:Nat) (p0:mosaic_Node):Option (List Int) :=
  (C8 F p0).bind fun a0 =>
  bif a0 then (some ([]:(List Int))) else ((Cv F ([82,68,77,49]) p0.horizon).bind fun a1 =>
  (Cv F a1 p0.count).bind fun a2 =>
  (Fm F p0).bind fun a3 =>
  Bp F a3 F 0 a2)
def Gf (a2:Int) (a0:(List Int)):Option (List Int) :=
  (apd 1 a0 ([IntKind.u8.wrap a2])).bind fun a1 =>
  some a1
def Ge (k2:(Int→(List Int)→Option (List Int))) (a0:Int) (a1:(List Int)):Option (List Int) :=
  bif (decide (a0≥128)) then ((Qt a0 128).bind fun a3 =>
  (ck (a3+128)).bind fun a4 =>
  (apd 1 a1 ([IntKind.u8.wrap a4])).bind fun a2 =>
  (Q3 a0 128).bind fun a5 =>
  k2 a5 a2) else (Gf a0 a1)
def E2:Nat→Int→(List Int)→Option (List Int)
  | 0,_,_=>none
  | n+1,a1,a0=>Ge (E2 n) a1 a0
def Dn (F:Nat) (p0:Int):Option (List Int) :=
  E2 F p0 ([])
def Jw (a0:Int):Option (List Int) :=
  some ([IntKind.u8.wrap (Lr .i64 (Int.fdiv a0 16777216) 255),IntKind.u8.wrap (Lr .i64 (Int.fdiv a0 65536) 255),IntKind.u8.wrap (Lr .i64 (Int.fdiv a0 256) 255),IntKind.u8.wrap (Lr .i64 a0 255)])
def Jv (p0:(List Int)) (k2:(Int→Int→Option (List Int))) (a1:Int) (a0:Int):Option (List Int) :=
  bif (decide (a0<((p0.length:Nat):Int))) then ((ck (31*a1)).bind fun a3 =>
  (C0 p0 a0).bind fun a2 =>
  (ck a2).bind fun a4 =>
  (ck (a3+a4)).bind fun a5 =>
  (ck (a5+1)).bind fun a6 =>
  (Qt a6 4294967296).bind fun a7 =>
  (ck (a0+1)).bind fun a8 =>
  k2 a7 a8) else (Jw a1)
def Fu (p0:(List Int)):Nat→Int→Int→Option (List Int)
  | 0,_,_=>none
  | n+1,a0,a1=>Jv p0 (Fu p0 n) a0 a1
def Lz (F:Nat) (p0:(List Int)):Option (List Int) :=
  Fu p0 F 1 0
def Cq (F:Nat) (a0:(List Int)):Option (List Int) :=
  (Lz F a0).bind fun a2 =>
  (apd 1 a0 a2).bind fun a1 =>
  some a1
def Dy (a1:Int) (k2:((List Int)→Int→Option (List Int))) (a0:(List Int)):Option (List Int) :=
  (ck (a1+1)).bind fun a2 =>
  k2 a0 a2
def Dx (F:Nat) (a8:Int) (k2:((List Int)→Int→Option (List Int))) (a1:ref11_Message) (k4:((List Int)→Int→Option (List Int))) (a2:(List Int)) (a0:Int):Option (List Int) :=
  bif (decide (a0<((a1.Vals.length:Nat):Int))) then ((C0 a1.Vals a0).bind fun a5 =>
  (Dn F a5.Lo).bind fun aB =>
  (apd 1 a2 aB).bind fun a3 =>
  (C0 a1.Vals a0).bind fun a6 =>
  (C0 a1.Vals a0).bind fun a7 =>
  (ck (a6.Hi-a7.Lo)).bind fun a9 =>
  (Dn F a9).bind fun aC =>
  (apd 1 a3 aC).bind fun a4 =>
  (ck (a0+1)).bind fun aA =>
  k4 a4 aA) else (Dy a8 k2 a2)
def C6 (F:Nat) (a1:Int) (k2:((List Int)→Int→Option (List Int))) (a0:ref11_Message):Nat→(List Int)→Int→Option (List Int)
  | 0,_,_=>none
  | n+1,a2,a3=>Dx F a1 k2 a0 (C6 F a1 k2 a0 n) a2 a3
def Dw (F:Nat) (d4:ref11_Node) (k2:((List Int)→Int→Option (List Int))) (a2:(List Int)) (a1:Int):Option (List Int) :=
  bif (decide (a1<((d4.l.length:Nat):Int))) then ((C0 d4.l a1).bind fun a0 =>
  (Dn F ((a0.Key.Name.size:Nat):Int)).bind fun a8 =>
  (apd 1 a2 a8).bind fun a3 =>
  (s2b a0.Key.Name).bind fun a4 =>
  (apd 1 a3 a4).bind fun a5 =>
  (Dn F a0.Key.Tilt).bind fun a9 =>
  (apd 1 a5 a9).bind fun a6 =>
  (Dn F a0.Key.Time).bind fun aA =>
  (apd 1 a6 aA).bind fun a7 =>
  C6 F a1 k2 a0 F a7 0) else (Cq F a2)
def Bs (F:Nat) (d4:ref11_Node):Nat→(List Int)→Int→Option (List Int)
  | 0,_,_=>none
  | n+1,a0,a1=>Dw F d4 (Bs F d4 n) a0 a1
def Bj (F:Nat) (p0:(Option ref11_Node)):Option (List Int) :=
  (p0).bind fun d4 =>
  (Dn F d4.h).bind fun a2 =>
  (apd 1 ([82,68,77,49]) a2).bind fun a0 =>
  (Dn F ((d4.l.length:Nat):Int)).bind fun a3 =>
  (apd 1 a0 a3).bind fun a1 =>
  Bs F d4 F a1 0
def D1 (p0:mosaic_reader) (p1:Int):Option (Except (Value×mosaic_reader) ((List Int)×mosaic_reader)) :=
  (Lh p0.left (0:Int) p1).bind fun l4 =>
  (Lh p0.left p1 ((p0.left.length:Nat):Int)).bind fun l6 =>
  some (.ok (l4,(mosaic_reader.mk l6)))
def B4 (F:Nat) (p0:mosaic_reader) (p1:Int):Option (Except (Value×mosaic_reader) ((List Int)×mosaic_reader)) :=
  bif (decide (p1>((p0.left.length:Nat):Int))) then (some (.error (.iface 204 (.agg #[]),p0))) else (D1 p0 p1)
def F5 (a0:(List Int)):Option (Except (Value×mosaic_reader) (Int×mosaic_reader)) :=
  some (.error (.iface 204 (.agg #[]),(mosaic_reader.mk a0)))
def Dm (F:Nat) (k2:((List Int)→Int→Int→Option (Except (Value×mosaic_reader) (Int×mosaic_reader)))) (a3:(List Int)) (a4:Int) (a0:Int):Option (Except (Value×mosaic_reader) (Int×mosaic_reader)) :=
  bif (decide (a0<35)) then ((B4 F (mosaic_reader.mk a3) 1).bind fun aA =>
  exc aA (fun a2=>some (.error (a2.1,(mosaic_reader.mk a2.2.left)))) fun a1 =>
  (C0 a1.1 0).bind fun a7 =>
  (ck a7).bind fun a5 =>
  (Qt a5 128).bind fun a8 =>
  (A04 .i64 a8 a0).bind fun a6 =>
  bif (decide (a5<128)) then (some (.ok ((orK .i64 a4 a6),(mosaic_reader.mk a1.2.left)))) else ((ck (a0+7)).bind fun a9 =>
  k2 a1.2.left (orK .i64 a4 a6) a9)) else (F5 a3)
def Bi (F:Nat):Nat→(List Int)→Int→Int→Option (Except (Value×mosaic_reader) (Int×mosaic_reader))
  | 0,_,_,_=>none
  | n+1,a0,a1,a2=>Dm F (Bi F n) a0 a1 a2
def Ag (F:Nat) (p0:mosaic_reader):Option (Except (Value×mosaic_reader) (Int×mosaic_reader)) :=
  Bi F F p0.left 0 0
def Ej:Option Bool :=
  some true
def D7 (p0:(List Int)) (p1:(List Int)) (k2:(Int→Option Bool)) (a0:Int):Option Bool :=
  bif (decide (a0<((p0.length:Nat):Int))) then ((C0 p0 a0).bind fun a1 =>
  (C0 p1 a0).bind fun a2 =>
  bif (a1 != a2) then (some false) else ((ck (a0+1)).bind fun a3 =>
  k2 a3)) else (Ej)
def Bw (p0:(List Int)) (p1:(List Int)):Nat→Int→Option Bool
  | 0,_=>none
  | n+1,a0=>D7 p0 p1 (Bw p0 p1 n) a0
def Ce (F:Nat) (p0:(List Int)) (p1:(List Int)):Option Bool :=
  bif (((p0.length:Nat):Int) != ((p1.length:Nat):Int)) then (some false) else (Bw p0 p1 F 0)
def Jo (F:Nat) (p1:(List Int)) (a4:Int) (a5:Int) (a6:Int) (a7:Int) (a8:Int) (a9:Int) (aA:Int) (aB:Int) (aC:Int) (a0:(List mosaic_Radar)) (aD:Int) (aG:(List Int)) (a1:(List (ByteArray×mosaic_Radar))) (a2:(List (mosaic_Key×(List (List api_Span))))) (a3:(List (mosaic_where×(List api_Span)))):Option (Except Int (mosaic_Node×Int)) :=
  (Ba F (mosaic_Node.mk (mosaic_Spec.mk (api_Grid.mk a4 a5 a8 a9 aA) (api_Span.mk aB aC) a0 aD) a1 a6 a2 a7 a3)).bind fun aE =>
  (Ce F aE p1).bind fun aF =>
  bif (!aF) then (some (.error 7)) else (some (.ok ((mosaic_Node.mk (mosaic_Spec.mk (api_Grid.mk a4 a5 a8 a9 aA) (api_Span.mk aB aC) a0 aD) a1 a6 a2 a7 a3),0)))
def Gr (a5:Int) (k4:(Int→Int→Int→Int→Int→Int→Int→Int→Int→(List mosaic_Radar)→Int→(List Int)→(List (ByteArray×mosaic_Radar))→(List (mosaic_Key×(List (List api_Span))))→(List (mosaic_where×(List api_Span)))→Int→Option (Except Int (mosaic_Node×Int)))) (a6:Int) (a7:Int) (a8:Int) (a9:Int) (aA:Int) (aB:Int) (aC:Int) (aD:Int) (aE:Int) (a0:(List mosaic_Radar)) (aF:Int) (a1:(List Int)) (a2:(List (ByteArray×mosaic_Radar))) (a3:(List (mosaic_Key×(List (List api_Span))))) (a4:(List (mosaic_where×(List api_Span)))):Option (Except Int (mosaic_Node×Int)) :=
  (ck (a5+1)).bind fun aG =>
  k4 a6 a7 a8 a9 aA aB aC aD aE a0 aF a1 a2 a3 a4 aG
def Dv (F:Nat) (a7:Int) (a8:Int) (a9:Int) (aA:Int) (aB:Int) (aC:Int) (aD:Int) (aE:Int) (aF:Int) (a1:(List mosaic_Radar)) (aG:Int) (a2:(List (ByteArray×mosaic_Radar))) (a3:(List (mosaic_Key×(List (List api_Span))))) (a4:(List (mosaic_where×(List api_Span)))) (aH:Int) (k4:(Int→Int→Int→Int→Int→Int→Int→Int→Int→(List mosaic_Radar)→Int→(List Int)→(List (ByteArray×mosaic_Radar))→(List (mosaic_Key×(List (List api_Span))))→(List (mosaic_where×(List api_Span)))→Int→Option (Except Int (mosaic_Node×Int)))) (aI:((List Int)×mosaic_reader)) (aJ:(Int×mosaic_reader)) (aK:(Int×mosaic_reader)) (a5:(List Int)) (a6:(List api_Span)):Option (Except Int (mosaic_Node×Int)) :=
  (Bo F (mosaic_Node.mk (mosaic_Spec.mk (api_Grid.mk a7 a8 aB aC aD) (api_Span.mk aE aF) a1 aG) a2 a9 a3 aA a4) (mosaic_Message.mk (mosaic_Key.mk (bst aI.1) aJ.1 aK.1) a6)).bind fun a0 =>
  bif (bif (!a0.1) then true else (a0.2.1 != 0)) then (some (.error 7)) else (Gr aH k4 a0.2.2.spec.Grid.X a0.2.2.spec.Grid.Y a0.2.2.horizon a0.2.2.count a0.2.2.spec.Grid.Size a0.2.2.spec.Grid.Wide a0.2.2.spec.Grid.High a0.2.2.spec.Earth.Lo a0.2.2.spec.Earth.Hi a0.2.2.spec.Radars a0.2.2.spec.Age a5 a0.2.2.radars a0.2.2.kept a0.2.2.looks)
def Es (F:Nat) (aC:Int) (aD:Int) (aE:Int) (aF:Int) (aG:Int) (aH:Int) (aI:Int) (aJ:Int) (aK:Int) (a7:(List mosaic_Radar)) (aL:Int) (a8:(List (ByteArray×mosaic_Radar))) (a9:(List (mosaic_Key×(List (List api_Span))))) (aA:(List (mosaic_where×(List api_Span)))) (aM:Int) (k4:(Int→Int→Int→Int→Int→Int→Int→Int→Int→(List mosaic_Radar)→Int→(List Int)→(List (ByteArray×mosaic_Radar))→(List (mosaic_Key×(List (List api_Span))))→(List (mosaic_where×(List api_Span)))→Int→Option (Except Int (mosaic_Node×Int)))) (aQ:((List Int)×mosaic_reader)) (aR:(Int×mosaic_reader)) (aS:(Int×mosaic_reader)) (aN:Int) (k7:((List Int)→(List api_Span)→Int→Option (Except Int (mosaic_Node×Int)))) (a1:(List Int)) (a2:(List api_Span)) (a3:Int):Option (Except Int (mosaic_Node×Int)) :=
  bif (decide (a3<aN)) then ((Ag F (mosaic_reader.mk a1)).bind fun aT =>
  exc aT (fun a5=>bif isI 204 a5.1 then (some (.error 7)) else none) fun a0 =>
  (Ag F (mosaic_reader.mk a0.2.left)).bind fun aU =>
  exc aU (fun a6=>bif isI 204 a6.1 then (some (.error 7)) else none) fun a4 =>
  (ck (a0.1+a4.1)).bind fun aO =>
  (apd 16 a2 ([(api_Span.mk a0.1 aO)])).bind fun aB =>
  (ck (a3+1)).bind fun aP =>
  k7 a4.2.left aB aP) else (Dv F aC aD aE aF aG aH aI aJ aK a7 aL a8 a9 aA aM k4 aQ aR aS a1 a2)
def Cx (F:Nat) (a4:Int) (a5:Int) (a6:Int) (a7:Int) (a8:Int) (a9:Int) (aA:Int) (aB:Int) (aC:Int) (a0:(List mosaic_Radar)) (aD:Int) (a1:(List (ByteArray×mosaic_Radar))) (a2:(List (mosaic_Key×(List (List api_Span))))) (a3:(List (mosaic_where×(List api_Span)))) (aE:Int) (k4:(Int→Int→Int→Int→Int→Int→Int→Int→Int→(List mosaic_Radar)→Int→(List Int)→(List (ByteArray×mosaic_Radar))→(List (mosaic_Key×(List (List api_Span))))→(List (mosaic_where×(List api_Span)))→Int→Option (Except Int (mosaic_Node×Int)))) (aG:((List Int)×mosaic_reader)) (aH:(Int×mosaic_reader)) (aI:(Int×mosaic_reader)) (aF:Int):Nat→(List Int)→(List api_Span)→Int→Option (Except Int (mosaic_Node×Int))
  | 0,_,_,_=>none
  | n+1,aJ,aK,aL=>Es F a4 a5 a6 a7 a8 a9 aA aB aC a0 aD a1 a2 a3 aE k4 aG aH aI aF (Cx F a4 a5 a6 a7 a8 a9 aA aB aC a0 aD a1 a2 a3 aE k4 aG aH aI aF n) aJ aK aL
def Er (F:Nat) (p0:mosaic_Spec) (p1:(List Int)) (aT:(Int×mosaic_reader)) (k4:(Int→Int→Int→Int→Int→Int→Int→Int→Int→(List mosaic_Radar)→Int→(List Int)→(List (ByteArray×mosaic_Radar))→(List (mosaic_Key×(List (List api_Span))))→(List (mosaic_where×(List api_Span)))→Int→Option (Except Int (mosaic_Node×Int)))) (a5:Int) (a6:Int) (a7:Int) (a8:Int) (a9:Int) (aA:Int) (aB:Int) (aC:Int) (aD:Int) (a0:(List mosaic_Radar)) (aE:Int) (a1:(List Int)) (a2:(List (ByteArray×mosaic_Radar))) (a3:(List (mosaic_Key×(List (List api_Span))))) (a4:(List (mosaic_where×(List api_Span)))) (aF:Int):Option (Except Int (mosaic_Node×Int)) :=
  bif (decide (aF<aT.1)) then ((Ag F (mosaic_reader.mk a1)).bind fun aP =>
  exc aP (fun aK=>bif isI 204 aK.1 then (some (.error 7)) else none) fun aG =>
  (B4 F (mosaic_reader.mk aG.2.left) aG.1).bind fun aQ =>
  exc aQ (fun aL=>bif isI 204 aL.1 then (some (.error 7)) else none) fun aH =>
  (Ag F (mosaic_reader.mk aH.2.left)).bind fun aR =>
  exc aR (fun aM=>bif isI 204 aM.1 then (some (.error 7)) else none) fun aI =>
  (Ag F (mosaic_reader.mk aI.2.left)).bind fun aS =>
  exc aS (fun aN=>bif isI 204 aN.1 then (some (.error 7)) else none) fun aJ =>
  (ck (p0.Grid.Wide*p0.Grid.High)).bind fun aO =>
  Cx F a5 a6 a7 a8 a9 aA aB aC aD a0 aE a2 a3 a4 aF k4 aH aI aJ aO F aJ.2.left ([]) 0) else (Jo F p1 a5 a6 a7 a8 a9 aA aB aC aD a0 aE a1 a2 a3 a4)
def C4 (F:Nat) (p0:mosaic_Spec) (p1:(List Int)) (a0:(Int×mosaic_reader)):Nat→Int→Int→Int→Int→Int→Int→Int→Int→Int→(List mosaic_Radar)→Int→(List Int)→(List (ByteArray×mosaic_Radar))→(List (mosaic_Key×(List (List api_Span))))→(List (mosaic_where×(List api_Span)))→Int→Option (Except Int (mosaic_Node×Int))
  | 0,_,_,_,_,_,_,_,_,_,_,_,_,_,_,_,_=>none
  | n+1,a6,a7,a8,a9,aA,aB,aC,aD,aE,a1,aF,a2,a3,a4,a5,aG=>Er F p0 p1 a0 (C4 F p0 p1 a0 n) a6 a7 a8 a9 aA aB aC aD aE a1 aF a2 a3 a4 a5 aG
def Jn (F:Nat) (p0:mosaic_Spec) (p1:(List Int)) (a0:(mosaic_Node×Int)) (a2:(Int×mosaic_reader)) (a1:(Int×mosaic_reader)):Option (Except Int (mosaic_Node×Int)) :=
  C4 F p0 p1 a1 F a0.1.spec.Grid.X a0.1.spec.Grid.Y a2.1 a0.1.count a0.1.spec.Grid.Size a0.1.spec.Grid.Wide a0.1.spec.Grid.High a0.1.spec.Earth.Lo a0.1.spec.Earth.Hi a0.1.spec.Radars a0.1.spec.Age a1.2.left a0.1.radars a0.1.kept a0.1.looks 0
def Gq (F:Nat) (p0:mosaic_Spec) (p1:(List Int)) (a5:(mosaic_Node×Int)) (a4:(List Int)):Option (Except Int (mosaic_Node×Int)) :=
  (Ag F (mosaic_reader.mk a4)).bind fun a6 =>
  exc a6 (fun a2=>bif isI 204 a2.1 then (some (.error 7)) else none) fun a0 =>
  (Ag F (mosaic_reader.mk a0.2.left)).bind fun a7 =>
  exc a7 (fun a3=>bif isI 204 a3.1 then (some (.error 7)) else none) fun a1 =>
  bif (bif (decide (a0.1>4294967296)) then true else (decide (a1.1>256))) then (some (.error 7)) else (Jn F p0 p1 a5 a0 a1)
def Jp (a0:(List Int)):Option (Except Int (mosaic_Node×Int)) :=
  none
def Fh (F:Nat) (p0:mosaic_Spec) (p1:(List Int)):Option (Except Int (mosaic_Node×Int)) :=
  (Gw F p0).bind fun a6 =>
  exc a6 (fun a1=>bif (a1 != 0) then (some (.error a1)) else ((B4 F (mosaic_reader.mk p1) 4).bind fun a8 =>
  exc a8 (fun a5=>bif isI 204 a5.1 then (some (.error 7)) else none) fun a3 =>
  bif (!(sEq (bst a3.1) (⟨#[82,68,77,49]⟩:ByteArray))) then (some (.error 7)) else (Jp a3.2.left))) (fun a0=>bif (a0.2 != 0) then (some (.error a0.2)) else ((B4 F (mosaic_reader.mk p1) 4).bind fun a7 =>
  exc a7 (fun a4=>bif isI 204 a4.1 then (some (.error 7)) else none) fun a2 =>
  bif (!(sEq (bst a2.1) (⟨#[82,68,77,49]⟩:ByteArray))) then (some (.error 7)) else (Gq F p0 p1 a0 a2.2.left)))
def Ay (F:Nat) (p0:ref11_reader) (p1:Int):Option ((List Int)×ref11_reader) :=
  bif (bif (decide (p1<0)) then true else (decide (p1>((p0.b.length:Nat):Int)))) then (some (([]:(List Int)),(ref11_reader.mk p0.b true))) else ((Lh p0.b (0:Int) p1).bind fun l4 =>
  (Lh p0.b p1 ((p0.b.length:Nat):Int)).bind fun l6 =>
  some (l4,(ref11_reader.mk l6 p0.bad)))
def Fs (a0:(List Int)) (a1:Bool):Option (Int×ref11_reader) :=
  some (0,(ref11_reader.mk a0 true))
def Dz (F:Nat) (k2:((List Int)→Bool→Int→Int→Int→Option (Int×ref11_reader))) (a2:(List Int)) (a1:Bool) (a8:Int) (a3:Int) (a4:Int):Option (Int×ref11_reader) :=
  bif (bif (decide (a4<5)) then (!a1) else false) then ((Ay F (ref11_reader.mk a2 a1) 1).bind fun a0 =>
  bif a0.2.bad then (some (0,(ref11_reader.mk a0.2.b a0.2.bad))) else ((C0 a0.1 0).bind fun a6 =>
  (Qt a6 128).bind fun a9 =>
  (ck a9).bind fun aA =>
  (ck (aA*a3)).bind fun aB =>
  (ck (a8+aB)).bind fun a5 =>
  (ck (a3*128)).bind fun aC =>
  (C0 a0.1 0).bind fun a7 =>
  bif (decide (a7<128)) then (some (a5,(ref11_reader.mk a0.2.b a0.2.bad))) else ((ck (a4+1)).bind fun aD =>
  k2 a0.2.b a0.2.bad a5 aC aD))) else (Fs a2 a1)
def Bf (F:Nat):Nat→(List Int)→Bool→Int→Int→Int→Option (Int×ref11_reader)
  | 0,_,_,_,_,_=>none
  | n+1,a1,a0,a2,a3,a4=>Dz F (Bf F n) a1 a0 a2 a3 a4
def Aa (F:Nat) (p0:ref11_reader):Option (Int×ref11_reader) :=
  Bf F F p0.b p0.bad 0 1 0
def H0:Option Int :=
  some 0
def Ez (p1:ref11_Message) (k2:(Int→Option Int)) (a0:Int):Option Int :=
  bif (decide (a0<((p1.Vals.length:Nat):Int))) then ((C0 p1.Vals a0).bind fun a1 =>
  bif (!(E8 a1 0 1000000)) then (some 3) else ((ck (a0+1)).bind fun a2 =>
  k2 a2)) else (H0)
def Cs (p1:ref11_Message):Nat→Int→Option Int
  | 0,_=>none
  | n+1,a0=>Ez p1 (Cs p1 n) a0
def D3 (F:Nat) (p0:(Option ref11_Node)) (p1:ref11_Message):Option Int :=
  (Gs F p0 p1.Key.Name).bind fun y7 =>
  bif (!y7.2) then (some 4) else (bif (bif (!(Ak p1.Key.Tilt 0 256)) then true else (!(Ak p1.Key.Time 0 4294967296))) then (some 3) else ((p0).bind fun d9 =>
  (ck (d9.s.Grid.Wide*d9.s.Grid.High)).bind fun a0 =>
  bif (((p1.Vals.length:Nat):Int) != a0) then (some 11) else (Cs p1 F 0)))
def M7:Option Bool :=
  some false
def Km (p0:(List api_Span)) (p1:(List api_Span)) (k2:(Int→Option Bool)) (a0:Int):Option Bool :=
  bif (decide (a0<((p0.length:Nat):Int))) then ((C0 p0 a0).bind fun a1 =>
  (C0 p1 a0).bind fun a2 =>
  bif (a1.Lo != a2.Lo) then ((C0 p0 a0).bind fun a3 =>
  (C0 p1 a0).bind fun a4 =>
  some (decide (a3.Lo<a4.Lo))) else ((C0 p0 a0).bind fun a5 =>
  (C0 p1 a0).bind fun a6 =>
  bif (a5.Hi != a6.Hi) then ((C0 p0 a0).bind fun a7 =>
  (C0 p1 a0).bind fun a8 =>
  some (decide (a7.Hi<a8.Hi))) else ((ck (a0+1)).bind fun a9 =>
  k2 a9))) else (M7)
def Gl (p0:(List api_Span)) (p1:(List api_Span)):Nat→Int→Option Bool
  | 0,_=>none
  | n+1,a0=>Km p0 p1 (Gl p0 p1 n) a0
def J5 (F:Nat) (p0:(List api_Span)) (p1:(List api_Span)):Option Bool :=
  Gl p0 p1 F 0
def Lp (F:Nat) (p0:(List api_Span)) (p1:(List api_Span)):Option Bool :=
  (J5 F p0 p1).bind fun y7 =>
  (gd (((!y7)==true&&true)) (J5 F p1 p0) default).bind fun y8 =>
  some (bif (!y7) then (!y8) else false)
def J3:Option Bool :=
  some false
def G4 (F:Nat) (p0:(Option ref11_Node)) (p1:ref11_Message) (k2:(Int→Option Bool)) (a1:Int):Option Bool :=
  (p0).bind fun a2 =>
  bif (decide (a1<((a2.l.length:Nat):Int))) then ((C0 a2.l a1).bind fun a0 =>
  bif ((a0.Key.Name==p1.Key.Name)&&(((a0.Key.Tilt:Int)==p1.Key.Tilt)&&(((a0.Key.Time:Int)==p1.Key.Time)&&true))) then ((C0 a2.l a1).bind fun a3 =>
  (Lp F a3.Vals p1.Vals).bind fun a6 =>
  bif (bif ((a0.Key.Name==p1.Key.Name)&&(((a0.Key.Tilt:Int)==p1.Key.Tilt)&&(((a0.Key.Time:Int)==p1.Key.Time)&&true))) then a6 else false) then (some true) else ((ck (a1+1)).bind fun a4 =>
  k2 a4)) else (bif (bif ((a0.Key.Name==p1.Key.Name)&&(((a0.Key.Tilt:Int)==p1.Key.Tilt)&&(((a0.Key.Time:Int)==p1.Key.Time)&&true))) then false else false) then (some true) else ((ck (a1+1)).bind fun a5 =>
  k2 a5))) else (J3)
def Dd (F:Nat) (p0:(Option ref11_Node)) (p1:ref11_Message):Nat→Int→Option Bool
  | 0,_=>none
  | n+1,a0=>G4 F p0 p1 (Dd F p0 p1 n) a0
def Em (F:Nat) (p0:(Option ref11_Node)) (p1:ref11_Message):Option Bool :=
  Dd F p0 p1 F 0
def C5 (p0:ref11_Key) (p1:ref11_Key):Bool :=
  bif (p0.Time != p1.Time) then (decide (p0.Time<p1.Time)) else (bif (!(sEq p0.Name p1.Name)) then (Ry p0.Name p1.Name) else (decide (p0.Tilt<p1.Tilt)))
def G6 (p0:ref11_Node) (a0:(List ref11_Message)):Option ref11_Node :=
  some (ref11_Node.mk p0.s p0.h a0)
def G5 (p0:ref11_Node) (p1:ref11_Message) (a0:(List ref11_Message)) (a1:Bool):Option ref11_Node :=
  bif (!a1) then ((apd 16 ([]:List api_Span) p1.Vals).bind fun a2 =>
  (apd 56 a0 ([(ref11_Message.mk p1.Key a2)])).bind fun a3 =>
  G6 p0 a3) else (G6 p0 a0)
def Df (a4:Int) (k3:((List ref11_Message)→Bool→Int→Option ref11_Node)) (a3:ref11_Message) (a1:(List ref11_Message)) (a0:Bool):Option ref11_Node :=
  (apd 56 a1 ([a3])).bind fun a2 =>
  (ck (a4+1)).bind fun a5 =>
  k3 a2 a0 a5
def De (F:Nat) (p0:ref11_Node) (p1:ref11_Message) (k3:((List ref11_Message)→Bool→Int→Option ref11_Node)) (a3:(List ref11_Message)) (a1:Bool) (a2:Int):Option ref11_Node :=
  bif (decide (a2<((p0.l.length:Nat):Int))) then ((C0 p0.l a2).bind fun a0 =>
  (gd ((((p1.Key.Name==a0.Key.Name)&&(((p1.Key.Tilt:Int)==a0.Key.Tilt)&&(((p1.Key.Time:Int)==a0.Key.Time)&&true)))==true&&((C5 p1.Key a0.Key)==false&&((!a1)==true&&true)))) (J5 F p1.Vals a0.Vals) default).bind fun a6 =>
  bif (bif (!a1) then (bif (C5 p1.Key a0.Key) then true else (bif ((p1.Key.Name==a0.Key.Name)&&(((p1.Key.Tilt:Int)==a0.Key.Tilt)&&(((p1.Key.Time:Int)==a0.Key.Time)&&true))) then a6 else false)) else false) then ((apd 16 ([]:List api_Span) p1.Vals).bind fun a4 =>
  (apd 56 a3 ([(ref11_Message.mk p1.Key a4)])).bind fun a5 =>
  Df a2 k3 a0 a5 true) else (Df a2 k3 a0 a3 a1)) else (G5 p0 p1 a3 a1)
def B3 (F:Nat) (p0:ref11_Node) (p1:ref11_Message):Nat→(List ref11_Message)→Bool→Int→Option ref11_Node
  | 0,_,_,_=>none
  | n+1,a1,a0,a2=>De F p0 p1 (B3 F p0 p1 n) a1 a0 a2
def Gd (F:Nat) (p0:ref11_Node) (p1:ref11_Message):Option ref11_Node :=
  B3 F p0 p1 F ([]) false 0
def Ke (F:Nat) (p1:(List Int)) (a2:Int) (a3:Int) (a0:(List ref11_Message)) (a4:Int) (a5:Int) (a6:Int) (a7:Int) (a8:Int) (a1:(List ref11_Radar)) (a9:Int) (aA:Int) (aD:(List Int)) (aC:Bool):Option (Except Int (ref11_Node×Int)) :=
  (Bj F (some (ref11_Node.mk (ref11_Spec.mk (api_Grid.mk a2 a3 a4 a5 a6) (api_Span.mk a7 a8) a1 a9) aA a0))).bind fun aB =>
  bif (!(sEq (bst aB) (bst p1))) then (some (.error 7)) else (some (.ok ((ref11_Node.mk (ref11_Spec.mk (api_Grid.mk a2 a3 a4 a5 a6) (api_Span.mk a7 a8) a1 a9) aA a0),0)))
def H9 (a4:Int) (k2:(Int→Int→(List ref11_Message)→Int→Int→Int→Int→Int→(List ref11_Radar)→Int→Int→(List Int)→Bool→Int→Option (Except Int (ref11_Node×Int)))) (a5:Int) (a6:Int) (a1:(List ref11_Message)) (a7:Int) (a8:Int) (a9:Int) (aA:Int) (aB:Int) (a2:(List ref11_Radar)) (aC:Int) (aD:Int) (a3:(List Int)) (a0:Bool):Option (Except Int (ref11_Node×Int)) :=
  (ck (a4+1)).bind fun aE =>
  k2 a5 a6 a1 a7 a8 a9 aA aB a2 aC aD a3 a0 aE
def Dg (F:Nat) (a7:Int) (a8:Int) (a4:(List ref11_Message)) (a9:Int) (aA:Int) (aB:Int) (aC:Int) (aD:Int) (a5:(List ref11_Radar)) (aE:Int) (a1:Int) (aJ:Int) (k2:(Int→Int→(List ref11_Message)→Int→Int→Int→Int→Int→(List ref11_Radar)→Int→Int→(List Int)→Bool→Int→Option (Except Int (ref11_Node×Int)))) (aF:((List Int)×ref11_reader)) (aG:(Int×ref11_reader)) (a2:(Int×ref11_reader)) (aI:(List Int)) (a3:Bool) (a6:(List api_Span)):Option (Except Int (ref11_Node×Int)) :=
  (gd ((a3==false&&true)) (D3 F (some (ref11_Node.mk (ref11_Spec.mk (api_Grid.mk a7 a8 a9 aA aB) (api_Span.mk aC aD) a5 aE) a1 a4)) (ref11_Message.mk (ref11_Key.mk (bst aF.1) aG.1 a2.1) a6)) default).bind fun aH =>
  (gd (((bif (bif a3 then true else (aH != 0)) then true else (decide (a2.1<a1)))==false&&true)) (Em F (some (ref11_Node.mk (ref11_Spec.mk (api_Grid.mk a7 a8 a9 aA aB) (api_Span.mk aC aD) a5 aE) a1 a4)) (ref11_Message.mk (ref11_Key.mk (bst aF.1) aG.1 a2.1) a6)) default).bind fun aK =>
  bif (bif (bif (bif a3 then true else (aH != 0)) then true else (decide (a2.1<a1))) then true else aK) then (some (.error 7)) else ((Gd F (ref11_Node.mk (ref11_Spec.mk (api_Grid.mk a7 a8 a9 aA aB) (api_Span.mk aC aD) a5 aE) a1 a4) (ref11_Message.mk (ref11_Key.mk (bst aF.1) aG.1 a2.1) a6)).bind fun a0 =>
  H9 aJ k2 a0.s.Grid.X a0.s.Grid.Y a0.l a0.s.Grid.Size a0.s.Grid.Wide a0.s.Grid.High a0.s.Earth.Lo a0.s.Earth.Hi a0.s.Radars a0.s.Age a0.h aI a3)
def Ea (F:Nat) (p0:ref11_Spec) (a9:Int) (aA:Int) (a6:(List ref11_Message)) (aB:Int) (aC:Int) (aD:Int) (aE:Int) (aF:Int) (a7:(List ref11_Radar)) (aG:Int) (aH:Int) (aI:Int) (k2:(Int→Int→(List ref11_Message)→Int→Int→Int→Int→Int→(List ref11_Radar)→Int→Int→(List Int)→Bool→Int→Option (Except Int (ref11_Node×Int)))) (aM:((List Int)×ref11_reader)) (aN:(Int×ref11_reader)) (aO:(Int×ref11_reader)) (k5:((List Int)→Bool→(List api_Span)→Int→Option (Except Int (ref11_Node×Int)))) (a3:(List Int)) (a1:Bool) (a4:(List api_Span)) (a5:Int):Option (Except Int (ref11_Node×Int)) :=
  (ck (p0.Grid.Wide*p0.Grid.High)).bind fun aJ =>
  bif (bif (decide (a5<aJ)) then (!a1) else false) then ((Aa F (ref11_reader.mk a3 a1)).bind fun a0 =>
  (Aa F (ref11_reader.mk a0.2.b a0.2.bad)).bind fun a2 =>
  (ck (a0.1+a2.1)).bind fun aK =>
  (apd 16 a4 ([(api_Span.mk a0.1 aK)])).bind fun a8 =>
  (ck (a5+1)).bind fun aL =>
  k5 a2.2.b a2.2.bad a8 aL) else (Dg F a9 aA a6 aB aC aD aE aF a7 aG aH aI k2 aM aN aO a3 a1 a4)
def Ct (F:Nat) (p0:ref11_Spec) (a2:Int) (a3:Int) (a0:(List ref11_Message)) (a4:Int) (a5:Int) (a6:Int) (a7:Int) (a8:Int) (a1:(List ref11_Radar)) (a9:Int) (aA:Int) (aB:Int) (k2:(Int→Int→(List ref11_Message)→Int→Int→Int→Int→Int→(List ref11_Radar)→Int→Int→(List Int)→Bool→Int→Option (Except Int (ref11_Node×Int)))) (aC:((List Int)×ref11_reader)) (aD:(Int×ref11_reader)) (aE:(Int×ref11_reader)):Nat→(List Int)→Bool→(List api_Span)→Int→Option (Except Int (ref11_Node×Int))
  | 0,_,_,_,_=>none
  | n+1,aG,aF,aH,aI=>Ea F p0 a2 a3 a0 a4 a5 a6 a7 a8 a1 a9 aA aB k2 aC aD aE (Ct F p0 a2 a3 a0 a4 a5 a6 a7 a8 a1 a9 aA aB k2 aC aD aE n) aG aF aH aI
def Ft (F:Nat) (p0:ref11_Spec) (p1:(List Int)) (aI:(Int×ref11_reader)) (k2:(Int→Int→(List ref11_Message)→Int→Int→Int→Int→Int→(List ref11_Radar)→Int→Int→(List Int)→Bool→Int→Option (Except Int (ref11_Node×Int)))) (a8:Int) (a9:Int) (a5:(List ref11_Message)) (aA:Int) (aB:Int) (aC:Int) (aD:Int) (aE:Int) (a6:(List ref11_Radar)) (aF:Int) (aG:Int) (a7:(List Int)) (a0:Bool) (aH:Int):Option (Except Int (ref11_Node×Int)) :=
  bif (bif (decide (aH<aI.1)) then (!a0) else false) then ((Aa F (ref11_reader.mk a7 a0)).bind fun a1 =>
  (Ay F (ref11_reader.mk a1.2.b a1.2.bad) a1.1).bind fun a2 =>
  (Aa F (ref11_reader.mk a2.2.b a2.2.bad)).bind fun a3 =>
  (Aa F (ref11_reader.mk a3.2.b a3.2.bad)).bind fun a4 =>
  Ct F p0 a8 a9 a5 aA aB aC aD aE a6 aF aG aH k2 a2 a3 a4 F a4.2.b a4.2.bad ([]) 0) else (Ke F p1 a8 a9 a5 aA aB aC aD aE a6 aF aG a7 a0)
def Cc (F:Nat) (p0:ref11_Spec) (p1:(List Int)) (a0:(Int×ref11_reader)):Nat→Int→Int→(List ref11_Message)→Int→Int→Int→Int→Int→(List ref11_Radar)→Int→Int→(List Int)→Bool→Int→Option (Except Int (ref11_Node×Int))
  | 0,_,_,_,_,_,_,_,_,_,_,_,_,_,_=>none
  | n+1,a5,a6,a2,a7,a8,a9,aA,aB,a3,aC,aD,a4,a1,aE=>Ft F p0 p1 a0 (Cc F p0 p1 a0 n) a5 a6 a2 a7 a8 a9 aA aB a3 aC aD a4 a1 aE
def F6 (F:Nat) (p0:ref11_Spec) (p1:(List Int)):Option (Except Int (ref11_Node×Int)) :=
  (Kd F p0).bind fun y8 =>
  exc y8 (fun a4=>bif (a4 != 0) then (some (.error a4)) else ((Ay F (ref11_reader.mk p1 false) 4).bind fun a5 =>
  bif (!(sEq (bst a5.1) (⟨#[82,68,77,49]⟩:ByteArray))) then (some (.error 7)) else (none))) (fun a0=>bif (a0.2 != 0) then (some (.error a0.2)) else ((Ay F (ref11_reader.mk p1 false) 4).bind fun a3 =>
  bif (!(sEq (bst a3.1) (⟨#[82,68,77,49]⟩:ByteArray))) then (some (.error 7)) else ((Aa F (ref11_reader.mk a3.2.b a3.2.bad)).bind fun a2 =>
  (Aa F (ref11_reader.mk a2.2.b a2.2.bad)).bind fun a1 =>
  bif (bif (bif a1.2.bad then true else (decide (a2.1>4294967296))) then true else (decide (a1.1>256))) then (some (.error 7)) else (Cc F p0 p1 a1 F a0.1.s.Grid.X a0.1.s.Grid.Y a0.1.l a0.1.s.Grid.Size a0.1.s.Grid.Wide a0.1.s.Grid.High a0.1.s.Earth.Lo a0.1.s.Earth.Hi a0.1.s.Radars a0.1.s.Age a2.1 a1.2.b a1.2.bad 0))))
def Do (F:Nat) (p0:mosaic_Spec) (p1:(List Int)):Option Bool :=
  (Mi F p0).bind fun y8 =>
  bif (bif (!y8) then true else (decide (((p1.length:Nat):Int)>300))) then ((E7 F).bind fun y9 =>
  some y9) else ((Fh F p0 p1).bind fun a5 =>
  exc a5 (fun a2=>(Li F p0).bind fun aA =>
  (F6 F aA p1).bind fun aB =>
  exc aB (fun a3=>bif (bif (a2 != a3) then true else (!(true==(a2 != 0)))) then (some false) else (bif (a2 != 0) then ((E7 F).bind fun aE =>
  some aE) else (none))) (fun aC=>bif (bif (a2 != aC.2) then true else (!(true==(a2 != 0)))) then (some false) else (bif (a2 != 0) then ((E7 F).bind fun aD =>
  some aD) else (none)))) (fun a0=>(Li F p0).bind fun aF =>
  (F6 F aF p1).bind fun aG =>
  exc aG (fun a4=>bif (bif (a0.2 != a4) then true else (!(false==(a0.2 != 0)))) then (some false) else (bif (a0.2 != 0) then ((E7 F).bind fun a6 =>
  some a6) else ((Ba F (mosaic_Node.mk (mosaic_Spec.mk (api_Grid.mk a0.1.spec.Grid.X a0.1.spec.Grid.Y a0.1.spec.Grid.Size a0.1.spec.Grid.Wide a0.1.spec.Grid.High) (api_Span.mk a0.1.spec.Earth.Lo a0.1.spec.Earth.Hi) a0.1.spec.Radars a0.1.spec.Age) a0.1.radars a0.1.horizon a0.1.kept a0.1.count a0.1.looks)).bind fun a7 =>
  bif (sEq (bst a7) (bst p1)) then ((Bj F (none:(Option ref11_Node))).bind fun a8 =>
  bif (sEq (bst a8) (bst p1)) then ((E7 F).bind fun a9 =>
  some a9) else (some false)) else (some false)))) (fun a1=>bif (bif (a0.2 != a1.2) then true else (!(false==(a0.2 != 0)))) then (some false) else (bif (a0.2 != 0) then ((E7 F).bind fun aH =>
  some aH) else ((Ba F (mosaic_Node.mk (mosaic_Spec.mk (api_Grid.mk a0.1.spec.Grid.X a0.1.spec.Grid.Y a0.1.spec.Grid.Size a0.1.spec.Grid.Wide a0.1.spec.Grid.High) (api_Span.mk a0.1.spec.Earth.Lo a0.1.spec.Earth.Hi) a0.1.spec.Radars a0.1.spec.Age) a0.1.radars a0.1.horizon a0.1.kept a0.1.count a0.1.looks)).bind fun aI =>
  bif (sEq (bst aI) (bst p1)) then ((Bj F (some (ref11_Node.mk (ref11_Spec.mk (api_Grid.mk a1.1.s.Grid.X a1.1.s.Grid.Y a1.1.s.Grid.Size a1.1.s.Grid.Wide a1.1.s.Grid.High) (api_Span.mk a1.1.s.Earth.Lo a1.1.s.Earth.Hi) a1.1.s.Radars a1.1.s.Age) a1.1.h a1.1.l))).bind fun aJ =>
  bif (sEq (bst aJ) (bst p1)) then ((E7 F).bind fun aK =>
  some aK) else (some false)) else (some false))))))
end Go.Proofs.YtkbjbnkkfifbmaaGreat
