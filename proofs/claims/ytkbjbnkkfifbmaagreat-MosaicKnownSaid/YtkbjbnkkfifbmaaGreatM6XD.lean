import Derived.Test.YtkbjbnkkfifbmaaGreatM6EB
namespace Go.Proofs.YtkbjbnkkfifbmaaGreat
open Go Go.RowKit Go.Eng
set_option maxRecDepth 10000
set_option maxHeartbeats 4000000
set_option linter.unusedVariables false
set_option linter.unusedSimpArgs false
structure api_Grid where
  X:Int
  Y:Int
  Size:Int
  Wide:Int
  High:Int
  deriving Inhabited,DecidableEq
structure api_Span where
  Lo:Int
  Hi:Int
  deriving Inhabited,DecidableEq
def api_Span.cells (x:api_Span):List Value:=[.int .i64 x.Lo,.int .i64 x.Hi]
theorem api_Span.cells_len (x:api_Span):(api_Span.cells x).length=2:=rfl
structure api_Site where
  Name:ByteArray
  X:Int
  Y:Int
  Z:Int
  Rose:Int
  Gates:Int
  Step:Int
  Width:Int
  deriving Inhabited,DecidableEq
structure mosaic_Radar where
  Site:api_Site
  Offset:api_Span
  deriving Inhabited,DecidableEq
def mosaic_Radar.cells (x:mosaic_Radar):List Value:=[.string x.Site.Name,.int .i64 x.Site.X,.int .i64 x.Site.Y,.int .i64 x.Site.Z,.int .i64 x.Site.Rose,.int .i64 x.Site.Gates,.int .i64 x.Site.Step,.int .i64 x.Site.Width,.int .i64 x.Offset.Lo,.int .i64 x.Offset.Hi]
theorem mosaic_Radar.cells_len (x:mosaic_Radar):(mosaic_Radar.cells x).length=10:=rfl
structure mosaic_Spec where
  Grid:api_Grid
  Earth:api_Span
  Radars:(List mosaic_Radar)
  Age:Int
  deriving Inhabited,DecidableEq
structure mosaic_Key where
  Name:ByteArray
  Tilt:Int
  Time:Int
  deriving Inhabited,DecidableEq
def mosaic_Key.cells (x:mosaic_Key):List Value:=[.string x.Name,.int .i64 x.Tilt,.int .i64 x.Time]
theorem mosaic_Key.cells_len (x:mosaic_Key):(mosaic_Key.cells x).length=3:=rfl
structure mosaic_where where
  name:ByteArray
  tilt:Int
  deriving Inhabited,DecidableEq
def mosaic_where.cells (x:mosaic_where):List Value:=[.string x.name,.int .i64 x.tilt]
structure mosaic_Node where
  spec:mosaic_Spec
  radars:(List (ByteArray×mosaic_Radar))
  horizon:Int
  kept:(List (mosaic_Key×(List (List api_Span))))
  count:Int
  looks:(List (mosaic_where×(List api_Span)))
  deriving Inhabited,DecidableEq
structure mosaic_Message where
  Key:mosaic_Key
  Vals:(List api_Span)
  deriving Inhabited,DecidableEq
structure beam_slant where
  c:Int
  s:Int
  d:Int
  deriving Inhabited,DecidableEq
structure beam_vector where
  x:Int
  y:Int
  length:Int
  deriving Inhabited,DecidableEq
structure mosaic_used where
  Key:mosaic_Key
  vals:(List api_Span)
  bands:(List api_Span)
  deriving Inhabited,DecidableEq
structure mosaic_Pixel where
  Value_:api_Span
  Key:mosaic_Key
  deriving Inhabited,DecidableEq
def mosaic_Pixel.cells (x:mosaic_Pixel):List Value:=[.int .i64 x.Value_.Lo,.int .i64 x.Value_.Hi,.string x.Key.Name,.int .i64 x.Key.Tilt,.int .i64 x.Key.Time]
theorem mosaic_Pixel.cells_len (x:mosaic_Pixel):(mosaic_Pixel.cells x).length=5:=rfl
structure mosaic_Clash where
  Pixel:Int
  A:mosaic_Key
  B:mosaic_Key
  deriving Inhabited,DecidableEq
def mosaic_Clash.cells (x:mosaic_Clash):List Value:=[.int .i64 x.Pixel,.string x.A.Name,.int .i64 x.A.Tilt,.int .i64 x.A.Time,.string x.B.Name,.int .i64 x.B.Tilt,.int .i64 x.B.Time]
theorem mosaic_Clash.cells_len (x:mosaic_Clash):(mosaic_Clash.cells x).length=7:=rfl
abbrev api_Grid.ar (x:api_Grid):Array Value:=#[.int .i64 x.X,.int .i64 x.Y,.int .i64 x.Size,.int .i64 x.Wide,.int .i64 x.High]
abbrev api_Grid.ag (x:api_Grid):Value:=.agg #[.int .i64 x.X,.int .i64 x.Y,.int .i64 x.Size,.int .i64 x.Wide,.int .i64 x.High]
abbrev api_Site.ar (x:api_Site):Array Value:=#[.string x.Name,.int .i64 x.X,.int .i64 x.Y,.int .i64 x.Z,.int .i64 x.Rose,.int .i64 x.Gates,.int .i64 x.Step,.int .i64 x.Width]
abbrev api_Site.ag (x:api_Site):Value:=.agg #[.string x.Name,.int .i64 x.X,.int .i64 x.Y,.int .i64 x.Z,.int .i64 x.Rose,.int .i64 x.Gates,.int .i64 x.Step,.int .i64 x.Width]
abbrev mosaic_Radar.ar (x:mosaic_Radar):Array Value:=#[.string x.Site.Name,.int .i64 x.Site.X,.int .i64 x.Site.Y,.int .i64 x.Site.Z,.int .i64 x.Site.Rose,.int .i64 x.Site.Gates,.int .i64 x.Site.Step,.int .i64 x.Site.Width,.int .i64 x.Offset.Lo,.int .i64 x.Offset.Hi]
abbrev mosaic_Radar.ag (x:mosaic_Radar):Value:=.agg #[.string x.Site.Name,.int .i64 x.Site.X,.int .i64 x.Site.Y,.int .i64 x.Site.Z,.int .i64 x.Site.Rose,.int .i64 x.Site.Gates,.int .i64 x.Site.Step,.int .i64 x.Site.Width,.int .i64 x.Offset.Lo,.int .i64 x.Offset.Hi]
abbrev mosaic_Key.ar (x:mosaic_Key):Array Value:=#[.string x.Name,.int .i64 x.Tilt,.int .i64 x.Time]
abbrev mosaic_Key.ag (x:mosaic_Key):Value:=.agg #[.string x.Name,.int .i64 x.Tilt,.int .i64 x.Time]
abbrev beam_slant.ar (x:beam_slant):Array Value:=#[.int .i64 x.c,.int .i64 x.s,.int .i64 x.d]
abbrev beam_slant.ag (x:beam_slant):Value:=.agg #[.int .i64 x.c,.int .i64 x.s,.int .i64 x.d]
abbrev beam_vector.ar (x:beam_vector):Array Value:=#[.int .i64 x.x,.int .i64 x.y,.int .i64 x.length]
abbrev beam_vector.ag (x:beam_vector):Value:=.agg #[.int .i64 x.x,.int .i64 x.y,.int .i64 x.length]
abbrev mosaic_Pixel.ar (x:mosaic_Pixel):Array Value:=#[.int .i64 x.Value_.Lo,.int .i64 x.Value_.Hi,.string x.Key.Name,.int .i64 x.Key.Tilt,.int .i64 x.Key.Time]
abbrev mosaic_Pixel.ag (x:mosaic_Pixel):Value:=.agg #[.int .i64 x.Value_.Lo,.int .i64 x.Value_.Hi,.string x.Key.Name,.int .i64 x.Key.Tilt,.int .i64 x.Key.Time]
abbrev mosaic_Clash.ar (x:mosaic_Clash):Array Value:=#[.int .i64 x.Pixel,.string x.A.Name,.int .i64 x.A.Tilt,.int .i64 x.A.Time,.string x.B.Name,.int .i64 x.B.Tilt,.int .i64 x.B.Time]
abbrev mosaic_Node.ax (x:mosaic_Node) (adg1_:Option Addr) (capg2_:Nat) (mg3_:Nat) (mg4_:Nat) (mg5_:Nat):Array Value:=#[.int .i64 x.spec.Grid.X,.int .i64 x.spec.Grid.Y,.int .i64 x.spec.Grid.Size,.int .i64 x.spec.Grid.Wide,.int .i64 x.spec.Grid.High,.int .i64 x.spec.Earth.Lo,.int .i64 x.spec.Earth.Hi,.slice adg1_ x.spec.Radars.length capg2_,.int .i64 x.spec.Age,.map (some mg3_),.int .i64 x.horizon,.map (some mg4_),.int .i64 x.count,.map (some mg5_)]
abbrev mosaic_Spec.ax (x:mosaic_Spec) (adg1_:Option Addr) (capg2_:Nat):Array Value:=#[.int .i64 x.Grid.X,.int .i64 x.Grid.Y,.int .i64 x.Grid.Size,.int .i64 x.Grid.Wide,.int .i64 x.Grid.High,.int .i64 x.Earth.Lo,.int .i64 x.Earth.Hi,.slice adg1_ x.Radars.length capg2_,.int .i64 x.Age]
abbrev mosaic_used.ax (x:mosaic_used) (adg1_:Option Addr) (capg2_:Nat) (adg3_:Option Addr) (capg4_:Nat):Array Value:=#[.string x.Key.Name,.int .i64 x.Key.Tilt,.int .i64 x.Key.Time,.slice adg1_ x.vals.length capg2_,.slice adg3_ x.bands.length capg4_]
abbrev Tg:Array Value:=#[.string ByteArray.empty,.int .i64 0,.int .i64 0,.int .i64 0,.int .i64 0,.int .i64 0,.int .i64 0,.int .i64 0,.int .i64 0,.int .i64 0]
abbrev z37:Array Value:=#[.int .i64 0,.int .i64 0,.int .i64 0,.int .i64 0,.int .i64 0,.int .i64 0,.int .i64 0,.slice none 0 0,.int .i64 0]
abbrev Qo:Array Value:=#[.string ByteArray.empty,.int .i64 0,.int .i64 0,.int .i64 0,.int .i64 0,.int .i64 0,.int .i64 0,.int .i64 0]
abbrev Vc:Array Value:=#[.string ByteArray.empty,.int .i64 0,.int .i64 0,.slice none 0 0,.slice none 0 0]
abbrev z66:Array Value:=#[.int .i64 0,.int .i64 0,.string ByteArray.empty,.int .i64 0,.int .i64 0]
abbrev z49:Array Value:=#[.string ByteArray.empty,.int .i64 0,.int .i64 0,.slice none 0 0]
def Rp47:Rel (List api_Span):=fun μ cs x=>∃(ad1:Option Addr) (cap2:Nat),cs=[.slice ad1 x.length cap2]∧ArrM μ 2 api_Span.cells ad1 cap2 x
theorem Rp47.mono:Rel.Mono Rp47:=by
  intro μ ν cs x hle h;obtain ⟨ad1,cap2,rfl,f0⟩:=h;exact ⟨ad1,cap2,rfl,f0.mono hle⟩
theorem Rp47.one:Rel.One 1 Rp47:=by
  intro μ cs x h;obtain ⟨ad1,cap2,rfl,f0⟩:=h
  all_goals rfl
def Rp155:Rel mosaic_used:=fun μ cs x=>∃(ad1:Option Addr) (cap2:Nat) (ad3:Option Addr) (cap4:Nat),cs=[.string x.Key.Name,.int .i64 x.Key.Tilt,.int .i64 x.Key.Time,.slice ad1 x.vals.length cap2,.slice ad3 x.bands.length cap4]∧ArrM μ 2 api_Span.cells ad1 cap2 x.vals∧ArrM μ 2 api_Span.cells ad3 cap4 x.bands
theorem Rp155.mono:Rel.Mono Rp155:=by
  intro μ ν cs x hle h;obtain ⟨ad1,cap2,ad3,cap4,rfl,f0,f1⟩:=h;exact ⟨ad1,cap2,ad3,cap4,rfl,f0.mono hle,f1.mono hle⟩
theorem Rp155.one:Rel.One 5 Rp155:=by
  intro μ cs x h;obtain ⟨ad1,cap2,ad3,cap4,rfl,f0,f1⟩:=h
  all_goals rfl
def Rp49:Rel mosaic_Message:=fun μ cs x=>∃(ad1:Option Addr) (cap2:Nat),cs=[.string x.Key.Name,.int .i64 x.Key.Tilt,.int .i64 x.Key.Time,.slice ad1 x.Vals.length cap2]∧ArrM μ 2 api_Span.cells ad1 cap2 x.Vals
theorem Rp49.mono:Rel.Mono Rp49:=by
  intro μ ν cs x hle h;obtain ⟨ad1,cap2,rfl,f0⟩:=h;exact ⟨ad1,cap2,rfl,f0.mono hle⟩
theorem Rp49.one:Rel.One 4 Rp49:=by
  intro μ cs x h;obtain ⟨ad1,cap2,rfl,f0⟩:=h
  all_goals rfl
def Rp57:Rel (List mosaic_Pixel):=fun μ cs x=>∃(ad1:Option Addr) (cap2:Nat),cs=[.slice ad1 x.length cap2]∧ArrM μ 5 mosaic_Pixel.cells ad1 cap2 x
theorem Rp57.mono:Rel.Mono Rp57:=by
  intro μ ν cs x hle h;obtain ⟨ad1,cap2,rfl,f0⟩:=h;exact ⟨ad1,cap2,rfl,f0.mono hle⟩
def Dy (p0:ByteArray):Bool:=Uv p0
def or3 (x y z:Int):Int:=if x≠0 then x else if y≠0 then y else z
def D1 (x y:mosaic_Key):Int:=or3 (if x.Time<y.Time then -1 else if y.Time<x.Time then 1 else 0) (if Mm x.Name y.Name then -1 else if Ln x.Name y.Name then 1 else 0) (if x.Tilt<y.Tilt then -1 else if y.Tilt<x.Tilt then 1 else 0)
def Bh (l:List mosaic_Key):List mosaic_Key:=N9 D1 l
def Ey (F:Nat) (p0:mosaic_Node):Option (List mosaic_Key):=if p0.kept.length≤1000000 then some (Bh (p0.kept.map (·.1))) else none
def Gk (F:Nat) (p0:List (List api_Span)) (p1:Int) (p2:List (List api_Span)):Option (List (List api_Span)):=if p1=(p0.length:Int)∧p2.length=1∧p0.length≤1000000 then some (p0++p2) else none
def Rj (time:Int) (p:mosaic_Key×List (List api_Span)):Bool:=decide (p.1.Time<time)
def Mz (time:Int) (l:List (mosaic_Key×List (List api_Span))):Nat:=((l.filter (Rj time)).map fun p=>p.2.length).sum
def ndK:List mosaic_Key→Bool
  | []=>true
  | k::l=>!l.contains k&&ndK l
def Jm (F:Nat) (p0:mosaic_Node) (p1:Int):Option (Int×mosaic_Node):=if ndK (p0.kept.map (·.1))=true∧-1000000000000≤p0.count∧p0.count≤1000000000000∧Mz p1 p0.kept≤1000000000000 then some ((Mz p1 p0.kept:Int),{ p0 with horizon:=p1,kept:=p0.kept.filter (fun p=>!Rj p1 p),count:=p0.count-Mz p1 p0.kept }) else none
def Fk (F:Nat) (p0:mosaic_Node):Option (List mosaic_Key):=if p0.kept.length≤1000000 then some ((Bh (p0.kept.map (·.1))).filter fun k=>!decide ((((lkM p0.kept k).getD []).length:Int)<2)) else none
def A8 (p0:Int) (p1:Int) (p2:Int):Bool :=
  bif (decide (p1≤p0)) then (decide (p0≤p2)) else false
def Bl (c2:Bool):Int :=
  bif c2 then (3) else (0)
def Bb (p0:api_Grid):Int :=
  bif (!(A8 p0.X (-1048576) 1048576)) then (Bl (!(A8 p0.X (-1048576) 1048576))) else (bif (!(A8 p0.Y (-1048576) 1048576)) then (Bl (!(A8 p0.Y (-1048576) 1048576))) else (bif (!(A8 p0.Size 1 10000)) then (Bl (!(A8 p0.Size 1 10000))) else (bif (!(A8 p0.Wide 1 64)) then (Bl (!(A8 p0.Wide 1 64))) else (Bl (!(A8 p0.High 1 64))))))
def Bw (p0:api_Span) (p1:Int) (p2:Int):Bool :=
  bif (bif (decide (p1≤p0.Lo)) then (decide (p0.Lo≤p0.Hi)) else false) then (decide (p0.Hi≤p2)) else false
def Bd (p0:Int) (p1:Int) (p2:Int):Bool :=
  bif (decide (p1≤p0)) then (decide (p0≤p2)) else false
def L0 (F:Nat) (p0:ByteArray):Option Bool :=
  (gd (((bif (!(sEq p0 (⟨#[]⟩:ByteArray))) then (decide (((p0.size:Nat):Int)≤12)) else false)==true&&true)) (Sv p0 (0:Int)) default).bind fun u1 =>
  (gd (((bif (bif (!(sEq p0 (⟨#[]⟩:ByteArray))) then (decide (((p0.size:Nat):Int)≤12)) else false) then (decide (u1≥97)) else false)==true&&true)) (Sv p0 (0:Int)) default).bind fun u2 =>
  some (bif (bif (bif (bif (!(sEq p0 (⟨#[]⟩:ByteArray))) then (decide (((p0.size:Nat):Int)≤12)) else false) then (decide (u1≥97)) else false) then (decide (u2≤122)) else false) then (!(Dy p0)) else false)
def By (c4:Bool):Option Int :=
  bif c4 then (some 3) else (some 0)
def Cb (p0:api_Site) (c3:Bool):Option Int :=
  bif c3 then (some 3) else (bif (!(A8 p0.Rose 1 90)) then (By (!(A8 p0.Rose 1 90))) else (bif (!(A8 p0.Gates 1 200)) then (By (!(A8 p0.Gates 1 200))) else (bif (!(A8 p0.Step 50 2000)) then (By (!(A8 p0.Step 50 2000))) else (By (!(A8 p0.Width 0 8))))))
def Dj (F:Nat) (p0:api_Site):Option Int :=
  (L0 F p0.Name).bind fun y2 =>
  bif (!y2) then (some 10) else (bif (!(A8 p0.X (-1048576) 1048576)) then (Cb p0 (!(A8 p0.X (-1048576) 1048576))) else (bif (!(A8 p0.Y (-1048576) 1048576)) then (Cb p0 (!(A8 p0.Y (-1048576) 1048576))) else (Cb p0 (!(A8 p0.Z 0 20000)))))
def G3 (a0:(List (ByteArray×Bool))):Option Int :=
  some 0
def G1 (F:Nat) (p0:mosaic_Spec) (k2:((List (ByteArray×Bool))→Int→Option Int)) (a1:(List (ByteArray×Bool))) (a2:Int):Option Int :=
  bif (decide (a2<((p0.Radars.length:Nat):Int))) then ((Ba p0.Radars a2).bind fun a0 =>
  (Dj F a0.Site).bind fun a3 =>
  bif (a3 != 0) then (some a3) else (bif ((lkM a1 a0.Site.Name).getD false) then (some 5) else (bif (!(Bw a0.Offset (-3600) 3600)) then (some 3) else ((ck (a2+1)).bind fun a4 =>
  k2 (upM a1 a0.Site.Name true) a4)))) else (G3 a1)
def Ej (F:Nat) (p0:mosaic_Spec):Nat→(List (ByteArray×Bool))→Int→Option Int
  | 0,_,_=>none
  | n+1,a0,a1=>G1 F p0 (Ej F p0 n) a0 a1
def Hw (F:Nat) (p0:mosaic_Spec):Option Int :=
  bif ((Bb p0.Grid) != 0) then (some (Bb p0.Grid)) else (bif (bif (!(Bw p0.Earth 1000000 100000000)) then true else (!(Bd p0.Age 1 86400))) then (some 3) else (bif (((p0.Radars.length:Nat):Int)==0) then (some 18) else (bif (decide (((p0.Radars.length:Nat):Int)>32)) then (some 9) else (Ej F p0 F ([]:List (ByteArray×Bool)) 0))))
def B3 (F:Nat) (p0:(List mosaic_Radar)):Option (List mosaic_Radar) :=
  (apd 88 ([]:List mosaic_Radar) p0).bind fun l5 =>
  some l5
def H4 (p0:mosaic_Spec) (y7:(List mosaic_Radar)) (a0:(List (ByteArray×mosaic_Radar))):Option (Except Int (mosaic_Node×Int)) :=
  some (.ok ((mosaic_Node.mk (mosaic_Spec.mk p0.Grid p0.Earth y7 p0.Age) a0 0 ([]:List (mosaic_Key×(List (List api_Span)))) 0 ([]:List (mosaic_where×(List api_Span)))),0))
def H3 (p0:mosaic_Spec) (y7:(List mosaic_Radar)) (k2:((List (ByteArray×mosaic_Radar))→Int→Option (Except Int (mosaic_Node×Int)))) (a1:(List (ByteArray×mosaic_Radar))) (a0:Int):Option (Except Int (mosaic_Node×Int)) :=
  bif (decide (a0<((y7.length:Nat):Int))) then ((Ba y7 a0).bind fun a2 =>
  (ck (a0+1)).bind fun a3 =>
  k2 (upM a1 a2.Site.Name a2) a3) else (H4 p0 y7 a1)
def Fv (p0:mosaic_Spec) (y7:(List mosaic_Radar)):Nat→(List (ByteArray×mosaic_Radar))→Int→Option (Except Int (mosaic_Node×Int))
  | 0,_,_=>none
  | n+1,a0,a1=>H3 p0 y7 (Fv p0 y7 n) a0 a1
def Gh (F:Nat) (p0:mosaic_Spec):Option (Except Int (mosaic_Node×Int)) :=
  (Hw F p0).bind fun y5 =>
  bif (y5 != 0) then (some (.error y5)) else ((B3 F p0.Radars).bind fun y7 =>
  Fv p0 y7 F ([]:List (ByteArray×mosaic_Radar)) 0)
def Bx (F:Nat) (p0:mosaic_Node):Option Bool :=
  some false
def Dg:Option Int :=
  some 0
def Df (p1:mosaic_Message) (k2:(Int→Option Int)) (a0:Int):Option Int :=
  bif (decide (a0<((p1.Vals.length:Nat):Int))) then ((Ba p1.Vals a0).bind fun a1 =>
  bif (!(Bw a1 0 1000000)) then (some 3) else ((ck (a0+1)).bind fun a2 =>
  k2 a2)) else (Dg)
def C7 (p1:mosaic_Message):Nat→Int→Option Int
  | 0,_=>none
  | n+1,a0=>Df p1 (C7 p1 n) a0
def Et (F:Nat) (p0:mosaic_Node) (p1:mosaic_Message):Option Int :=
  bif (!((lkM p0.radars p1.Key.Name).isSome)) then (some 4) else (bif (bif (!(Bd p1.Key.Tilt 0 256)) then true else (!(Bd p1.Key.Time 0 4294967296))) then (some 3) else ((ck (p0.spec.Grid.Wide*p0.spec.Grid.High)).bind fun a0 =>
  bif (((p1.Vals.length:Nat):Int) != a0) then (some 11) else (C7 p1 F 0)))
def H0:Option Int :=
  some 0
def Gz (p0:(List Int)) (k2:(Int→Option Int)) (a0:Int):Option Int :=
  bif (decide (a0<((p0.length:Nat):Int))) then ((Ba p0 a0).bind fun a1 =>
  bif (a1 != 0) then (some a1) else ((ck (a0+1)).bind fun a2 =>
  k2 a2)) else (H0)
def Ft (p0:(List Int)):Nat→Int→Option Int
  | 0,_=>none
  | n+1,a0=>Gz p0 (Ft p0 n) a0
def Hq (F:Nat) (p0:(List Int)):Option Int :=
  Ft p0 F 0
def Bk (p0:Int):Bool :=
  p0 != p0
def Aa (p0:Int) (p1:Int):Int :=
  bif (Bk p0) then (bif (Bk p1) then (0) else (-1)) else (bif (Bk p1) then (1) else (bif (decide (p0<p1)) then (-1) else (bif (decide (p0>p1)) then (1) else (0))))
def Fl (F:Nat) (p0:api_Span) (p1:api_Span):Option Int :=
  (Hq F ([(Aa p0.Lo p1.Lo),(Aa p0.Hi p1.Hi)])).bind fun y4 =>
  some y4
def Al (p0:(List api_Span)) (p1:(List api_Span)):Option Int :=
  bif (decide (((p0.length:Nat):Int)<((p1.length:Nat):Int))) then (some (-1)) else (some 0)
def Ak (F:Nat) (p0:(List api_Span)) (p1:(List api_Span)) (k2:(Int→Option Int)) (a0:Int):Option Int :=
  bif (decide (a0<((p0.length:Nat):Int))) then ((Ba p0 a0).bind fun a2 =>
  bif (decide (a0≥((p1.length:Nat):Int))) then (some 1) else ((Ba p1 a0).bind fun a3 =>
  (Fl F a2 a3).bind fun a1 =>
  bif (a1 != 0) then (some a1) else ((ck (a0+1)).bind fun a4 =>
  k2 a4))) else (Al p0 p1)
def Ag (F:Nat) (p0:(List api_Span)) (p1:(List api_Span)):Nat→Int→Option Int
  | 0,_=>none
  | n+1,a0=>Ak F p0 p1 (Ag F p0 p1 n) a0
def Ao (F:Nat) (p0:(List api_Span)) (p1:(List api_Span)):Option Int :=
  Ag F p0 p1 F 0
def F7 (F:Nat) (p0:(List api_Span)) (p1:(List api_Span)):Option Int :=
  (Ao F p0 p1).bind fun y8 =>
  some y8
def Ar (F:Nat) (p0:(List (List api_Span))) (p1:(List api_Span)) (a0:Int):Option (Int×Bool) :=
  bif (decide (a0<((p0.length:Nat):Int))) then ((Ba p0 a0).bind fun a1 =>
  (F7 F a1 p1).bind fun a2 =>
  some (a0,a2==0)) else (some (a0,false))
def Aq (F:Nat) (p0:(List (List api_Span))) (p1:(List api_Span)) (k2:(Int→Int→Option (Int×Bool))) (a1:Int) (a0:Int):Option (Int×Bool) :=
  bif (decide (a0<a1)) then ((ck (a0+a1)).bind fun a4 =>
  (ck (Int.fdiv (IntKind.u64.wrap a4) 2)).bind fun a2 =>
  (Ba p0 a2).bind fun a3 =>
  (F7 F a3 p1).bind fun a6 =>
  bif (decide (a6<0)) then ((ck (a2+1)).bind fun a5 =>
  k2 a1 a5) else (k2 a2 a0)) else (Ar F p0 p1 a0)
def Ah (F:Nat) (p0:(List (List api_Span))) (p1:(List api_Span)):Nat→Int→Int→Option (Int×Bool)
  | 0,_,_=>none
  | n+1,a0,a1=>Aq F p0 p1 (Ah F p0 p1 n) a0 a1
def Av (F:Nat) (p0:(List (List api_Span))) (p1:(List api_Span)):Option (Int×Bool) :=
  Ah F p0 p1 F ((p0.length:Nat):Int) 0
def D7 (F:Nat) (p0:mosaic_Node) (p1:mosaic_Message):Option (Int×Bool) :=
  (Av F ((lkM p0.kept p1.Key).getD []) p1.Vals).bind fun a0 =>
  some (a0.1,a0.2)
def Bg (F:Nat) (p0:(List (List api_Span))):Option (List (List api_Span)) :=
  (apd 24 ([]:List (List api_Span)) p0).bind fun l7 =>
  some l7
def B5 (F:Nat) (p0:(List api_Span)):Option (List api_Span) :=
  (apd 16 ([]:List api_Span) p0).bind fun l5 =>
  some l5
def Fo (F:Nat) (p0:mosaic_Node) (p1:mosaic_Message):Option mosaic_Node :=
  (D7 F p0 p1).bind fun a1 =>
  (Bg F ((lkM p0.kept p1.Key).getD [])).bind fun a2 =>
  (B5 F p1.Vals).bind fun a3 =>
  (Gk F a2 a1.1 ([a3])).bind fun a4 =>
  (ck (p0.count+1)).bind fun a0 =>
  some (mosaic_Node.mk p0.spec p0.radars p0.horizon (upM p0.kept p1.Key a4) a0 p0.looks)
def Az (F:Nat) (p0:mosaic_Node) (p1:mosaic_Message):Option (Bool×Int×mosaic_Node) :=
  (Bx F p0).bind fun a1 =>
  bif a1 then (some (false,1,p0)) else ((Et F p0 p1).bind fun a0 =>
  bif (a0 != 0) then (some (false,a0,p0)) else (bif (decide (p1.Key.Time<p0.horizon)) then (some (false,17,p0)) else ((D7 F p0 p1).bind fun a2 =>
  bif a2.2 then (some (false,0,p0)) else (bif (decide (p0.count≥256)) then (some (false,13,p0)) else ((Fo F p0 p1).bind fun a3 =>
  some (true,0,a3))))))
def D2 (F:Nat) (p0:mosaic_Node) (p1:Int):Option Int :=
  (Bx F p0).bind fun a0 =>
  bif a0 then (some 1) else (bif (!(Bd p1 0 4294967296)) then (some 3) else (bif (decide (p1<p0.horizon)) then (some 17) else (some 0)))
def Bc (p0:ByteArray):Bool :=
  !(sEq p0 p0)
def Be (p0:ByteArray) (p1:ByteArray):Int :=
  bif (Bc p0) then (bif (Bc p1) then (0) else (-1)) else (bif (Bc p1) then (1) else (bif (Mm p0 p1) then (-1) else (bif (Ln p0 p1) then (1) else (0))))
def D0 (F:Nat) (p0:Int):Option beam_slant :=
  (ck (p0*p0)).bind fun x2 =>
  (ck (262144-x2)).bind fun x3 =>
  (ck (1024*p0)).bind fun x4 =>
  (ck (p0*p0)).bind fun x5 =>
  (ck (262144+x5)).bind fun x6 =>
  some (beam_slant.mk x3 x4 x6)
def Fx (F:Nat) (p0:Int) (c0_:api_Site) (c1_:beam_slant):Option Int :=
  (ck (p0*c0_.Step)).bind fun x1 =>
  (ck (x1*c1_.c)).bind fun x2 =>
  (Me x2 c1_.d).bind fun x3 =>
  some x3
def Hp (a0:Int):Option Int :=
  some a0
def Ho (F:Nat) (p0:api_Site) (p2:Int) (y2:beam_slant) (k2:(Int→Int→Option Int)) (a0:Int) (a2:Int):Option Int :=
  (ck (a2-a0)).bind fun a3 =>
  bif (decide (a3>1)) then ((ck (a0+a2)).bind fun a4 =>
  (Me a4 2).bind fun a1 =>
  (Fx F a1 p0 y2).bind fun a6 =>
  (Fx F a1 p0 y2).bind fun a7 =>
  (ck (a6*a7)).bind fun a5 =>
  bif (decide (a5≤p2)) then (k2 a1 a2) else (k2 a0 a1)) else (Hp a0)
def G9 (F:Nat) (p0:api_Site) (p2:Int) (y2:beam_slant):Nat→Int→Int→Option Int
  | 0,_,_=>none
  | n+1,a0,a1=>Ho F p0 p2 y2 (G9 F p0 p2 y2 n) a0 a1
def L4 (F:Nat) (p0:api_Site) (p1:Int) (p2:Int):Option Int :=
  (D0 F p1).bind fun y2 =>
  (Fx F p0.Gates p0 y2).bind fun y4 =>
  (ck (y4*y4)).bind fun x5 =>
  bif (decide (p2≥x5)) then (some (-1)) else (G9 F p0 p2 y2 F 0 p0.Gates)
def Gc (F:Nat) (p0:Int) (p1:Int):Option beam_vector :=
  (Sh p1 p0).bind fun x2 =>
  (ck (2*p0)).bind fun x3 =>
  (ck (x3*x2)).bind fun x4 =>
  (ck (p0*p0)).bind fun x5 =>
  (ck (x2*x2)).bind fun x6 =>
  (ck (x5-x6)).bind fun x7 =>
  (ck (p0*p0)).bind fun x8 =>
  (ck (x2*x2)).bind fun x9 =>
  (ck (x8+x9)).bind fun a0 =>
  (Me p1 p0).bind fun a1 =>
  bif (a1==0) then (some (beam_vector.mk x4 x7 a0)) else (bif (a1==1) then (bif (a1==0) then (some (beam_vector.mk x4 x7 a0)) else (some (beam_vector.mk x7 (IntKind.i64.wrap (0-x4)) a0))) else (bif (a1==0) then (some (beam_vector.mk x4 x7 a0)) else (bif (a1==2) then (bif (a1==0) then (some (beam_vector.mk x4 x7 a0)) else (some (beam_vector.mk (IntKind.i64.wrap (0-x4)) (IntKind.i64.wrap (0-x7)) a0))) else (bif (a1==0) then (some (beam_vector.mk x4 x7 a0)) else (bif (a1==3) then (bif (a1==0) then (some (beam_vector.mk x4 x7 a0)) else (some (beam_vector.mk (IntKind.i64.wrap (0-x7)) x4 a0))) else (bif (a1==0) then (some (beam_vector.mk x4 x7 a0)) else (none)))))))
def F4 (F:Nat) (p0:beam_vector) (p1:Int) (p2:Int):Option Bool :=
  (ck (p0.y*p1)).bind fun x2 =>
  (ck (p0.x*p2)).bind fun x3 =>
  some (decide (x2≥x3))
def Jf (p0:Int) (a0:Int) (a1:Int):Option Int :=
  (ck (a0*p0)).bind fun a2 =>
  (ck (a2+a1)).bind fun a3 =>
  some a3
def Jc (F:Nat) (p0:Int) (a3:Int) (a4:Int) (a5:Int) (k3:(Int→Int→Option Int)) (a0:Int) (a1:Int):Option Int :=
  (ck (a1-a0)).bind fun a6 =>
  bif (decide (a6>1)) then ((ck (a0+a1)).bind fun a7 =>
  (Me a7 2).bind fun a2 =>
  (Gc F p0 a2).bind fun a8 =>
  (F4 F a8 a3 a4).bind fun a9 =>
  bif a9 then (k3 a2 a1) else (k3 a0 a2)) else (Jf p0 a5 a0)
def Gp (F:Nat) (p0:Int) (a0:Int) (a1:Int) (a2:Int):Nat→Int→Int→Option Int
  | 0,_,_=>none
  | n+1,a3,a4=>Jc F p0 a0 a1 a2 (Gp F p0 a0 a1 a2 n) a3 a4
def Je (F:Nat) (p0:Int) (a0:Int) (a1:Int) (a2:Int):Option Int :=
  Gp F p0 a0 a1 a2 F 0 p0
def Jd (F:Nat) (p0:Int) (k4:(Int→Int→Int→Option Int)) (a0:Int) (a1:Int) (a2:Int):Option Int :=
  bif (bif (decide (a0<0)) then true else (decide (a1≤0))) then ((ck (a2+1)).bind fun a3 =>
  k4 (IntKind.i64.wrap (0-a1)) a0 a3) else (Je F p0 a0 a1 a2)
def Gq (F:Nat) (p0:Int):Nat→Int→Int→Int→Option Int
  | 0,_,_,_=>none
  | n+1,a0,a1,a2=>Jd F p0 (Gq F p0 n) a0 a1 a2
def Lv (F:Nat) (p0:Int) (p1:Int) (p2:Int):Option Int :=
  Gq F p0 F p1 p2 0
def L2 (F:Nat) (p0:api_Site) (p1:Int) (p2:Int) (p3:Int):Option (Int×Int×Bool) :=
  (ck (p2-p0.X)).bind fun x2 =>
  (ck (p3-p0.Y)).bind fun x3 =>
  bif (bif (x2==0) then (x3==0) else false) then (some (0,0,true)) else ((ck (x2*x2)).bind fun x4 =>
  (ck (x3*x3)).bind fun x5 =>
  (ck (x4+x5)).bind fun x6 =>
  (L4 F p0 p1 x6).bind fun y7 =>
  bif (decide (y7<0)) then (some (0,0,false)) else ((Lv F p0.Rose x2 x3).bind fun y8 =>
  some (y8,y7,true)))
def Hk (a0:(List Int)):Option ((List Int)×Int) :=
  some (a0,0)
def Hl (a1:Int) (k2:((List Int)→Int→Option ((List Int)×Int))) (a0:(List Int)):Option ((List Int)×Int) :=
  (ck (a1+1)).bind fun a2 =>
  k2 a0 a2
def G6 (a0:(List Int)) (a2:Int) (k4:((List Int)→Int→Option ((List Int)×Int))) (a3:Int):Option ((List Int)×Int) :=
  (apd 8 a0 ([a3])).bind fun a1 =>
  (ck (a2+1)).bind fun a4 =>
  k4 a1 a4
def Hj (F:Nat) (p0:api_Site) (p1:Int) (p2:api_Grid) (a3:Int) (k2:((List Int)→Int→Option ((List Int)×Int))) (k4:((List Int)→Int→Option ((List Int)×Int))) (a1:(List Int)) (a0:Int):Option ((List Int)×Int) :=
  bif (decide (a0<p2.Wide)) then ((ck (a0*p2.Size)).bind fun a4 =>
  (ck (p2.X+a4)).bind fun a5 =>
  (Me p2.Size 2).bind fun a6 =>
  (ck (a5+a6)).bind fun a7 =>
  (ck (a3*p2.Size)).bind fun a8 =>
  (ck (p2.Y+a8)).bind fun a9 =>
  (Me p2.Size 2).bind fun aA =>
  (ck (a9+aA)).bind fun aB =>
  (L2 F p0 p1 a7 aB).bind fun a2 =>
  bif a2.2.2 then ((ck (a2.1*p0.Gates)).bind fun aC =>
  (ck (aC+a2.2.1)).bind fun aD =>
  G6 a1 a0 k4 aD) else (G6 a1 a0 k4 (-1))) else (Hl a3 k2 a1)
def G8 (F:Nat) (p0:api_Site) (p1:Int) (p2:api_Grid) (a0:Int) (k2:((List Int)→Int→Option ((List Int)×Int))):Nat→(List Int)→Int→Option ((List Int)×Int)
  | 0,_,_=>none
  | n+1,a1,a2=>Hj F p0 p1 p2 a0 k2 (G8 F p0 p1 p2 a0 k2 n) a1 a2
def Hh (F:Nat) (p0:api_Site) (p1:Int) (p2:api_Grid) (k2:((List Int)→Int→Option ((List Int)×Int))) (a0:(List Int)) (a1:Int):Option ((List Int)×Int) :=
  bif (decide (a1<p2.High)) then (G8 F p0 p1 p2 a1 k2 F a0 0) else (Hk a0)
def G7 (F:Nat) (p0:api_Site) (p1:Int) (p2:api_Grid):Nat→(List Int)→Int→Option ((List Int)×Int)
  | 0,_,_=>none
  | n+1,a0,a1=>Hh F p0 p1 p2 (G7 F p0 p1 p2 n) a0 a1
def L1 (F:Nat) (p0:api_Site) (p1:Int) (p2:api_Grid):Option ((List Int)×Int) :=
  (Dj F p0).bind fun y3 =>
  bif (y3 != 0) then (some (([]:(List Int)),y3)) else (bif ((Bb p2) != 0) then (some (([]:(List Int)),(Bb p2))) else (bif (!(A8 p1 0 256)) then (some (([]:(List Int)),3)) else ((ck (p2.Wide*p2.High)).bind fun x4 =>
  (mk0 8 x4).bind fun c6 =>
  G7 F p0 p1 p2 F ([]:List Int) 0)))
def Dk (p0:api_Span):Bool :=
  bif (bif (decide (1000000≤p0.Lo)) then (decide (p0.Lo≤p0.Hi)) else false) then (decide (p0.Hi≤100000000)) else false
def H7 (F:Nat) (p0:Int) (p1:Int):Option Int :=
  (Me p0 p1).bind fun x1 =>
  (ck (x1*p1)).bind fun x2 =>
  bif (decide (x2>p0)) then ((ck (x1-1)).bind fun x3 =>
  some x3) else (some x1)
def Kn (F:Nat) (p0:Int) (p1:Int):Option Int :=
  (Me p0 p1).bind fun x1 =>
  (ck (x1*p1)).bind fun x2 =>
  bif (decide (x2<p0)) then ((ck (x1+1)).bind fun x3 =>
  some x3) else (some x1)
def Fe (F:Nat) (p0:api_Site) (p1:Int) (p2:Int):Option Int :=
  (D0 F p1).bind fun y2 =>
  (ck (2*p2)).bind fun x4 =>
  (ck (x4+1)).bind fun x5 =>
  (ck (x5*p0.Step)).bind fun x6 =>
  (ck (x6*y2.c)).bind fun x7 =>
  (ck (2*y2.d)).bind fun x8 =>
  (H7 F x7 x8).bind fun y9 =>
  some y9
def Fz (F:Nat) (p0:api_Site) (p1:Int) (p2:Int) (p3:Int):Option Int :=
  (D0 F p1).bind fun y2 =>
  (Fe F p0 p1 p2).bind fun y5 =>
  (ck (2*p2)).bind fun x6 =>
  (ck (x6+1)).bind fun x7 =>
  (ck (x7*p0.Step)).bind fun x8 =>
  (ck (x8*y2.s)).bind fun x9 =>
  (ck (2*y2.d)).bind fun a0 =>
  (ck (y5*y5)).bind fun a1 =>
  (ck (2*p3)).bind fun a2 =>
  (H7 F x9 a0).bind fun a5 =>
  (ck (p0.Z+a5)).bind fun a3 =>
  (H7 F a1 a2).bind fun a6 =>
  (ck (a3+a6)).bind fun a4 =>
  some a4
def Ff (F:Nat) (p0:api_Site) (p1:Int) (p2:Int):Option Int :=
  (D0 F p1).bind fun y2 =>
  (ck (2*p2)).bind fun x4 =>
  (ck (x4+1)).bind fun x5 =>
  (ck (x5*p0.Step)).bind fun x6 =>
  (ck (x6*y2.c)).bind fun x7 =>
  (ck (2*y2.d)).bind fun x8 =>
  (Kn F x7 x8).bind fun y9 =>
  some y9
def G0 (F:Nat) (p0:api_Site) (p1:Int) (p2:Int) (p3:Int):Option Int :=
  (D0 F p1).bind fun y2 =>
  (Ff F p0 p1 p2).bind fun y5 =>
  (ck (2*p2)).bind fun x6 =>
  (ck (x6+1)).bind fun x7 =>
  (ck (x7*p0.Step)).bind fun x8 =>
  (ck (x8*y2.s)).bind fun x9 =>
  (ck (2*y2.d)).bind fun a0 =>
  (ck (y5*y5)).bind fun a1 =>
  (ck (2*p3)).bind fun a2 =>
  (Kn F x9 a0).bind fun a5 =>
  (ck (p0.Z+a5)).bind fun a3 =>
  (Kn F a1 a2).bind fun a6 =>
  (ck (a3+a6)).bind fun a4 =>
  some a4
def Kz (F:Nat) (p0:api_Site) (p1:Int) (p2:api_Span) (p3:Int):Option (api_Span×Int) :=
  (Dj F p0).bind fun y4 =>
  bif (y4 != 0) then (some ((api_Span.mk 0 0),y4)) else ((gd (((bif (!(A8 p1 0 256)) then true else (!(Dk p2)))==false&&true)) (ck (p0.Gates-1)) 0).bind fun x5 =>
  bif (bif (bif (!(A8 p1 0 256)) then true else (!(Dk p2))) then true else (!(A8 p3 0 x5))) then (some ((api_Span.mk 0 0),3)) else ((ck (p1-p0.Width)).bind fun x6 =>
  (ck (p1+p0.Width)).bind fun x7 =>
  (Fz F p0 x6 p3 p2.Hi).bind fun y9 =>
  (G0 F p0 x7 p3 p2.Lo).bind fun a0 =>
  some ((api_Span.mk y9 a0),0)))
def Dw (p0:mosaic_Node) (p1:mosaic_Key) (a0:(List api_Span)):Option ((List api_Span)×(List (mosaic_where×(List api_Span)))) :=
  some (a0,(upM p0.looks (mosaic_where.mk p1.Name p1.Tilt) a0))
def Ch (a0:(List api_Span)) (a2:Int) (k2:((List api_Span)→Int→Option ((List api_Span)×(List (mosaic_where×(List api_Span)))))) (a3:Int) (a4:Int):Option ((List api_Span)×(List (mosaic_where×(List api_Span)))) :=
  (apd 16 a0 ([(api_Span.mk a3 a4)])).bind fun a1 =>
  (ck (a2+1)).bind fun a5 =>
  k2 a1 a5
def Dv (F:Nat) (p0:mosaic_Node) (p1:mosaic_Key) (a4:((List Int)×Int)) (k2:((List api_Span)→Int→Option ((List api_Span)×(List (mosaic_where×(List api_Span)))))) (a1:(List api_Span)) (a0:Int):Option ((List api_Span)×(List (mosaic_where×(List api_Span)))) :=
  bif (decide (a0<((a4.1.length:Nat):Int))) then ((Ba a4.1 a0).bind fun a2 =>
  bif (decide (a2≥0)) then ((Sh a2 ((((lkM p0.radars p1.Name).getD (mosaic_Radar.mk (api_Site.mk ByteArray.empty 0 0 0 0 0 0 0) (api_Span.mk 0 0))).Site).Gates)).bind fun a5 =>
  (Kz F (api_Site.mk ((((lkM p0.radars p1.Name).getD (mosaic_Radar.mk (api_Site.mk ByteArray.empty 0 0 0 0 0 0 0) (api_Span.mk 0 0))).Site).Name) ((((lkM p0.radars p1.Name).getD (mosaic_Radar.mk (api_Site.mk ByteArray.empty 0 0 0 0 0 0 0) (api_Span.mk 0 0))).Site).X) ((((lkM p0.radars p1.Name).getD (mosaic_Radar.mk (api_Site.mk ByteArray.empty 0 0 0 0 0 0 0) (api_Span.mk 0 0))).Site).Y) ((((lkM p0.radars p1.Name).getD (mosaic_Radar.mk (api_Site.mk ByteArray.empty 0 0 0 0 0 0 0) (api_Span.mk 0 0))).Site).Z) ((((lkM p0.radars p1.Name).getD (mosaic_Radar.mk (api_Site.mk ByteArray.empty 0 0 0 0 0 0 0) (api_Span.mk 0 0))).Site).Rose) ((((lkM p0.radars p1.Name).getD (mosaic_Radar.mk (api_Site.mk ByteArray.empty 0 0 0 0 0 0 0) (api_Span.mk 0 0))).Site).Gates) ((((lkM p0.radars p1.Name).getD (mosaic_Radar.mk (api_Site.mk ByteArray.empty 0 0 0 0 0 0 0) (api_Span.mk 0 0))).Site).Step) ((((lkM p0.radars p1.Name).getD (mosaic_Radar.mk (api_Site.mk ByteArray.empty 0 0 0 0 0 0 0) (api_Span.mk 0 0))).Site).Width)) p1.Tilt p0.spec.Earth a5).bind fun a3 =>
  Ch a1 a0 k2 a3.1.Lo a3.1.Hi) else (Ch a1 a0 k2 1 0)) else (Dw p0 p1 a1)
def Ci (F:Nat) (p0:mosaic_Node) (p1:mosaic_Key) (a0:((List Int)×Int)):Nat→(List api_Span)→Int→Option ((List api_Span)×(List (mosaic_where×(List api_Span))))
  | 0,_,_=>none
  | n+1,a1,a2=>Dv F p0 p1 a0 (Ci F p0 p1 a0 n) a1 a2
def F9 (F:Nat) (p0:mosaic_Node) (p1:mosaic_Key):Option ((List api_Span)×(List (mosaic_where×(List api_Span)))) :=
  bif ((lkM p0.looks (mosaic_where.mk p1.Name p1.Tilt)).isSome) then (some (((lkM p0.looks (mosaic_where.mk p1.Name p1.Tilt)).getD []),p0.looks)) else ((L1 F (api_Site.mk ((((lkM p0.radars p1.Name).getD (mosaic_Radar.mk (api_Site.mk ByteArray.empty 0 0 0 0 0 0 0) (api_Span.mk 0 0))).Site).Name) ((((lkM p0.radars p1.Name).getD (mosaic_Radar.mk (api_Site.mk ByteArray.empty 0 0 0 0 0 0 0) (api_Span.mk 0 0))).Site).X) ((((lkM p0.radars p1.Name).getD (mosaic_Radar.mk (api_Site.mk ByteArray.empty 0 0 0 0 0 0 0) (api_Span.mk 0 0))).Site).Y) ((((lkM p0.radars p1.Name).getD (mosaic_Radar.mk (api_Site.mk ByteArray.empty 0 0 0 0 0 0 0) (api_Span.mk 0 0))).Site).Z) ((((lkM p0.radars p1.Name).getD (mosaic_Radar.mk (api_Site.mk ByteArray.empty 0 0 0 0 0 0 0) (api_Span.mk 0 0))).Site).Rose) ((((lkM p0.radars p1.Name).getD (mosaic_Radar.mk (api_Site.mk ByteArray.empty 0 0 0 0 0 0 0) (api_Span.mk 0 0))).Site).Gates) ((((lkM p0.radars p1.Name).getD (mosaic_Radar.mk (api_Site.mk ByteArray.empty 0 0 0 0 0 0 0) (api_Span.mk 0 0))).Site).Step) ((((lkM p0.radars p1.Name).getD (mosaic_Radar.mk (api_Site.mk ByteArray.empty 0 0 0 0 0 0 0) (api_Span.mk 0 0))).Site).Width)) p1.Tilt p0.spec.Grid).bind fun a0 =>
  Ci F p0 p1 a0 F ([]) 0)
def Es (a0:(List (mosaic_where×(List api_Span)))) (a1:(List mosaic_used)):Option ((List mosaic_used)×(List (mosaic_where×(List api_Span)))) :=
  some (a1,a0)
def D3 (a2:Int) (k3:((List (mosaic_where×(List api_Span)))→Int→(List mosaic_used)→Option ((List mosaic_used)×(List (mosaic_where×(List api_Span)))))) (a0:(List (mosaic_where×(List api_Span)))) (a1:(List mosaic_used)):Option ((List mosaic_used)×(List (mosaic_where×(List api_Span)))) :=
  (ck (a2+1)).bind fun a3 =>
  k3 a0 a3 a1
def Eo (F:Nat) (p0:mosaic_Node) (a4:(List (mosaic_where×mosaic_Key))) (a5:(List mosaic_Key)) (k3:((List (mosaic_where×(List api_Span)))→Int→(List mosaic_used)→Option ((List mosaic_used)×(List (mosaic_where×(List api_Span)))))) (a2:(List (mosaic_where×(List api_Span)))) (a1:Int) (a3:(List mosaic_used)):Option ((List mosaic_used)×(List (mosaic_where×(List api_Span)))) :=
  bif (decide (a1<((a5.length:Nat):Int))) then ((Ba a5 a1).bind fun a0 =>
  bif (((((lkM a4 (mosaic_where.mk a0.Name a0.Tilt)).getD (mosaic_Key.mk ByteArray.empty 0 0)).Name)==a0.Name)&&(((((lkM a4 (mosaic_where.mk a0.Name a0.Tilt)).getD (mosaic_Key.mk ByteArray.empty 0 0)).Tilt:Int)==a0.Tilt)&&(((((lkM a4 (mosaic_where.mk a0.Name a0.Tilt)).getD (mosaic_Key.mk ByteArray.empty 0 0)).Time:Int)==a0.Time)&&true))) then ((Ba ((lkM p0.kept a0).getD []) 0).bind fun a8 =>
  (F9 F (mosaic_Node.mk p0.spec p0.radars p0.horizon p0.kept p0.count a2) a0).bind fun a6 =>
  (apd 80 a3 ([(mosaic_used.mk a0 a8 a6.1)])).bind fun a7 =>
  D3 a1 k3 a6.2 a7) else (D3 a1 k3 a2 a3)) else (Es a2 a3)
def D5 (F:Nat) (p0:mosaic_Node) (a0:(List (mosaic_where×mosaic_Key))) (a1:(List mosaic_Key)):Nat→(List (mosaic_where×(List api_Span)))→Int→(List mosaic_used)→Option ((List mosaic_used)×(List (mosaic_where×(List api_Span))))
  | 0,_,_,_=>none
  | n+1,a2,a4,a3=>Eo F p0 a0 a1 (D5 F p0 a0 a1 n) a2 a4 a3
def Er (F:Nat) (p0:mosaic_Node) (a0:(List (mosaic_where×mosaic_Key))):Option ((List mosaic_used)×(List (mosaic_where×(List api_Span)))) :=
  (Ey F p0).bind fun a1 =>
  D5 F p0 a0 a1 F p0.looks 0 ([])
def D4 (a1:Int) (k5:((List (mosaic_where×mosaic_Key))→Int→Option ((List mosaic_used)×(List (mosaic_where×(List api_Span)))))) (a0:(List (mosaic_where×mosaic_Key))):Option ((List mosaic_used)×(List (mosaic_where×(List api_Span)))) :=
  (ck (a1+1)).bind fun a2 =>
  k5 a0 a2
def Ep (F:Nat) (p0:mosaic_Node) (p1:Int) (a4:(List mosaic_Key)) (k5:((List (mosaic_where×mosaic_Key))→Int→Option ((List mosaic_used)×(List (mosaic_where×(List api_Span)))))) (a2:(List (mosaic_where×mosaic_Key))) (a1:Int):Option ((List mosaic_used)×(List (mosaic_where×(List api_Span)))) :=
  bif (decide (a1<((a4.length:Nat):Int))) then ((Ba a4 a1).bind fun a0 =>
  (gd (((((((lkM p0.kept a0).getD []).length:Nat):Int)==1)==true&&true)) (ck (a0.Time+((((lkM p0.radars a0.Name).getD (mosaic_Radar.mk (api_Site.mk ByteArray.empty 0 0 0 0 0 0 0) (api_Span.mk 0 0))).Offset).Hi))) 0).bind fun a3 =>
  (gd (((bif (((((lkM p0.kept a0).getD []).length:Nat):Int)==1) then (decide (a3≤p1)) else false)==true&&true)) (ck (p1-a0.Time)) 0).bind fun a5 =>
  (gd (((bif (((((lkM p0.kept a0).getD []).length:Nat):Int)==1) then (decide (a3≤p1)) else false)==true&&true)) (ck (a5-((((lkM p0.radars a0.Name).getD (mosaic_Radar.mk (api_Site.mk ByteArray.empty 0 0 0 0 0 0 0) (api_Span.mk 0 0))).Offset).Lo))) 0).bind fun a6 =>
  bif (bif (bif (((((lkM p0.kept a0).getD []).length:Nat):Int)==1) then (decide (a3≤p1)) else false) then (decide (a6≤p0.spec.Age)) else false) then (D4 a1 k5 (upM a2 (mosaic_where.mk a0.Name a0.Tilt) a0)) else (D4 a1 k5 a2)) else (Er F p0 a2)
def D6 (F:Nat) (p0:mosaic_Node) (p1:Int) (a0:(List mosaic_Key)):Nat→(List (mosaic_where×mosaic_Key))→Int→Option ((List mosaic_used)×(List (mosaic_where×(List api_Span))))
  | 0,_,_=>none
  | n+1,a1,a2=>Ep F p0 p1 a0 (D6 F p0 p1 a0 n) a1 a2
def Ek (F:Nat) (p0:mosaic_Node) (p1:Int):Option ((List mosaic_used)×(List (mosaic_where×(List api_Span)))) :=
  (Ey F p0).bind fun a0 =>
  D6 F p0 p1 a0 F ([]:List (mosaic_where×mosaic_Key)) 0
def Am (p0:api_Span):Bool :=
  decide (p0.Lo≤p0.Hi)
def E9 (a1:((List mosaic_used)×(List (mosaic_where×(List api_Span))))) (a0:(List mosaic_Pixel)):Option ((List mosaic_Pixel)×Int×(List (mosaic_where×(List api_Span)))) :=
  some (a0,0,a1.2)
def Ea (a1:Int) (k2:(Int→(List mosaic_Pixel)→Option ((List mosaic_Pixel)×Int×(List (mosaic_where×(List api_Span)))))) (a0:(List mosaic_Pixel)):Option ((List mosaic_Pixel)×Int×(List (mosaic_where×(List api_Span)))) :=
  (ck (a1+1)).bind fun a2 =>
  k2 a2 a0
def Ck (a3:Int) (a0:(List mosaic_Pixel)) (k2:(Int→(List mosaic_Pixel)→Option ((List mosaic_Pixel)×Int×(List (mosaic_where×(List api_Span)))))) (a4:Int) (a5:Int) (a2:ByteArray) (a6:Int) (a7:Int):Option ((List mosaic_Pixel)×Int×(List (mosaic_where×(List api_Span)))) :=
  (apd 48 a0 ([(mosaic_Pixel.mk (api_Span.mk a4 a5) (mosaic_Key.mk a2 a6 a7))])).bind fun a1 =>
  Ea a3 k2 a1
def Eb (a5:((List mosaic_used)×(List (mosaic_where×(List api_Span))))) (a1:Int) (a2:(List mosaic_Pixel)) (k2:(Int→(List mosaic_Pixel)→Option ((List mosaic_Pixel)×Int×(List (mosaic_where×(List api_Span)))))) (a4:Int):Option ((List mosaic_Pixel)×Int×(List (mosaic_where×(List api_Span)))) :=
  bif (decide (a4<0)) then (Ck a1 a2 k2 0 1000000 ByteArray.empty 0 0) else ((Ba a5.1 a4).bind fun a0 =>
  (Ba a0.vals a1).bind fun a3 =>
  Ck a1 a2 k2 a3.Lo a3.Hi a0.Key.Name a0.Key.Tilt a0.Key.Time)
def Bq (a0:Int) (k6:(Int→Int→Option ((List mosaic_Pixel)×Int×(List (mosaic_where×(List api_Span)))))) (a1:Int):Option ((List mosaic_Pixel)×Int×(List (mosaic_where×(List api_Span)))) :=
  (ck (a0+1)).bind fun a2 =>
  k6 a1 a2
def E8 (F:Nat) (a5:((List mosaic_used)×(List (mosaic_where×(List api_Span))))) (a2:Int) (a6:(List mosaic_Pixel)) (k2:(Int→(List mosaic_Pixel)→Option ((List mosaic_Pixel)×Int×(List (mosaic_where×(List api_Span)))))) (k6:(Int→Int→Option ((List mosaic_Pixel)×Int×(List (mosaic_where×(List api_Span)))))) (a4:Int) (a0:Int):Option ((List mosaic_Pixel)×Int×(List (mosaic_where×(List api_Span)))) :=
  bif (decide (a0<((a5.1.length:Nat):Int))) then ((Ba a5.1 a0).bind fun a1 =>
  (Ba a1.bands a2).bind fun a7 =>
  bif (!(Am a7)) then (Bq a0 k6 a4) else (bif (decide (a4<0)) then (Bq a0 k6 a0) else ((Ba a5.1 a4).bind fun a3 =>
  (Ba a1.bands a2).bind fun a8 =>
  (Ba a3.bands a2).bind fun a9 =>
  (Ba a1.bands a2).bind fun aA =>
  (Ba a3.bands a2).bind fun aB =>
  (Hq F ([(Aa a8.Hi a9.Hi),(Aa aA.Lo aB.Lo),(Aa a3.Key.Time a1.Key.Time),(Be a1.Key.Name a3.Key.Name),(Aa a1.Key.Tilt a3.Key.Tilt)])).bind fun aC =>
  bif (decide (aC<0)) then (Bq a0 k6 a0) else (Bq a0 k6 a4)))) else (Eb a5 a2 a6 k2 a4)
def Cm (F:Nat) (a2:((List mosaic_used)×(List (mosaic_where×(List api_Span))))) (a1:Int) (a0:(List mosaic_Pixel)) (k2:(Int→(List mosaic_Pixel)→Option ((List mosaic_Pixel)×Int×(List (mosaic_where×(List api_Span)))))):Nat→Int→Int→Option ((List mosaic_Pixel)×Int×(List (mosaic_where×(List api_Span))))
  | 0,_,_=>none
  | n+1,a3,a4=>E8 F a2 a1 a0 k2 (Cm F a2 a1 a0 k2 n) a3 a4
def E7 (F:Nat) (a2:((List mosaic_used)×(List (mosaic_where×(List api_Span))))) (a3:Int) (k2:(Int→(List mosaic_Pixel)→Option ((List mosaic_Pixel)×Int×(List (mosaic_where×(List api_Span)))))) (a1:Int) (a0:(List mosaic_Pixel)):Option ((List mosaic_Pixel)×Int×(List (mosaic_where×(List api_Span)))) :=
  bif (decide (a1<a3)) then (Cm F a2 a1 a0 k2 F (-1) 0) else (E9 a2 a0)
def Cl (F:Nat) (a1:((List mosaic_used)×(List (mosaic_where×(List api_Span))))) (a0:Int):Nat→Int→(List mosaic_Pixel)→Option ((List mosaic_Pixel)×Int×(List (mosaic_where×(List api_Span))))
  | 0,_,_=>none
  | n+1,a3,a2=>E7 F a1 a0 (Cl F a1 a0 n) a3 a2
def C5 (F:Nat) (p0:mosaic_Node) (p1:Int):Option ((List mosaic_Pixel)×Int×(List (mosaic_where×(List api_Span)))) :=
  (D2 F p0 p1).bind fun a0 =>
  bif (a0 != 0) then (some (([]:(List mosaic_Pixel)),a0,p0.looks)) else ((Ek F p0 p1).bind fun a2 =>
  (ck (p0.spec.Grid.Wide*p0.spec.Grid.High)).bind fun a1 =>
  Cl F a2 a1 F 0 ([]))
def A0 (p0:Int):api_Span :=
  (api_Span.mk p0 p0)
def law11_S:mosaic_Spec :=
  (mosaic_Spec.mk (api_Grid.mk (-2000) (-1000) 1000 4 2) (A0 8000000) ([(mosaic_Radar.mk (api_Site.mk (⟨#[97]⟩:ByteArray) (-1500) (-500) 100 1 3 1000 0) (api_Span.mk 0 0)),(mosaic_Radar.mk (api_Site.mk (⟨#[98]⟩:ByteArray) 1500 (-500) 100 1 3 1000 0) (api_Span.mk 5 10))]) 600)
def Fj (p0:ByteArray) (p1:Int) (a0:(List api_Span)):Option mosaic_Message :=
  some (mosaic_Message.mk (mosaic_Key.mk p0 0 p1) a0)
def Fi (p0:ByteArray) (p1:Int) (p2:Int) (k2:((List api_Span)→Int→Option mosaic_Message)) (a0:(List api_Span)) (a1:Int):Option mosaic_Message :=
  bif (decide (a1<8)) then ((apd 16 a0 ([(A0 p2)])).bind fun a2 =>
  (ck (a1+1)).bind fun a3 =>
  k2 a2 a3) else (Fj p0 p1 a0)
def E0 (p0:ByteArray) (p1:Int) (p2:Int):Nat→(List api_Span)→Int→Option mosaic_Message
  | 0,_,_=>none
  | n+1,a0,a1=>Fi p0 p1 p2 (E0 p0 p1 p2 n) a0 a1
def Bi (F:Nat) (p0:ByteArray) (p1:Int) (p2:Int):Option mosaic_Message :=
  E0 p0 p1 p2 F ([]) 0
def Gt (F:Nat):Option Bool :=
  (Gh F (mosaic_Spec.mk (api_Grid.mk law11_S.Grid.X law11_S.Grid.Y law11_S.Grid.Size law11_S.Grid.Wide law11_S.Grid.High) (api_Span.mk law11_S.Earth.Lo law11_S.Earth.Hi) law11_S.Radars law11_S.Age)).bind fun y7 =>
  exc y7 (fun a7=>bif (a7 != 0) then (some false) else (none)) (fun a2=>bif (a2.2 != 0) then (some false) else ((Bi F (⟨#[97]⟩:ByteArray) 100 5).bind fun a8 =>
  (Az F (mosaic_Node.mk (mosaic_Spec.mk (api_Grid.mk a2.1.spec.Grid.X a2.1.spec.Grid.Y a2.1.spec.Grid.Size a2.1.spec.Grid.Wide a2.1.spec.Grid.High) (api_Span.mk a2.1.spec.Earth.Lo a2.1.spec.Earth.Hi) a2.1.spec.Radars a2.1.spec.Age) a2.1.radars a2.1.horizon a2.1.kept a2.1.count a2.1.looks) a8).bind fun a0 =>
  (Bi F (⟨#[98]⟩:ByteArray) 100 7).bind fun a9 =>
  (Az F (mosaic_Node.mk (mosaic_Spec.mk (api_Grid.mk a0.2.2.spec.Grid.X a0.2.2.spec.Grid.Y a0.2.2.spec.Grid.Size a0.2.2.spec.Grid.Wide a0.2.2.spec.Grid.High) (api_Span.mk a0.2.2.spec.Earth.Lo a0.2.2.spec.Earth.Hi) a0.2.2.spec.Radars a0.2.2.spec.Age) a0.2.2.radars a0.2.2.horizon a0.2.2.kept a0.2.2.count a0.2.2.looks) a9).bind fun a1 =>
  (C5 F (mosaic_Node.mk (mosaic_Spec.mk (api_Grid.mk a1.2.2.spec.Grid.X a1.2.2.spec.Grid.Y a1.2.2.spec.Grid.Size a1.2.2.spec.Grid.Wide a1.2.2.spec.Grid.High) (api_Span.mk a1.2.2.spec.Earth.Lo a1.2.2.spec.Earth.Hi) a1.2.2.spec.Radars a1.2.2.spec.Age) a1.2.2.radars a1.2.2.horizon a1.2.2.kept a1.2.2.count a1.2.2.looks) 110).bind fun a3 =>
  (gd (((bif (bif (bif (bif (bif a0.1 then a1.1 else false) then (a0.2.1==0) else false) then (a1.2.1==0) else false) then (a3.2.1==0) else false) then (((a3.1.length:Nat):Int)==8) else false)==true&&true)) (Ba a3.1 0) default).bind fun a4 =>
  (gd (((bif (bif (bif (bif (bif (bif a0.1 then a1.1 else false) then (a0.2.1==0) else false) then (a1.2.1==0) else false) then (a3.2.1==0) else false) then (((a3.1.length:Nat):Int)==8) else false) then (((a4.Value_.Lo:Int)==(A0 5).Lo)&&(((a4.Value_.Hi:Int)==(A0 5).Hi)&&true)) else false)==true&&true)) (Ba a3.1 2) default).bind fun a5 =>
  (gd (((bif (bif (bif (bif (bif (bif (bif a0.1 then a1.1 else false) then (a0.2.1==0) else false) then (a1.2.1==0) else false) then (a3.2.1==0) else false) then (((a3.1.length:Nat):Int)==8) else false) then (((a4.Value_.Lo:Int)==(A0 5).Lo)&&(((a4.Value_.Hi:Int)==(A0 5).Hi)&&true)) else false) then ((a5.Key.Name==(⟨#[97]⟩:ByteArray))&&(((a5.Key.Tilt:Int)==0)&&(((a5.Key.Time:Int)==100)&&true))) else false)==true&&true)) (Ba a3.1 3) default).bind fun a6 =>
  some (bif (bif (bif (bif (bif (bif (bif (bif a0.1 then a1.1 else false) then (a0.2.1==0) else false) then (a1.2.1==0) else false) then (a3.2.1==0) else false) then (((a3.1.length:Nat):Int)==8) else false) then (((a4.Value_.Lo:Int)==(A0 5).Lo)&&(((a4.Value_.Hi:Int)==(A0 5).Hi)&&true)) else false) then ((a5.Key.Name==(⟨#[97]⟩:ByteArray))&&(((a5.Key.Tilt:Int)==0)&&(((a5.Key.Time:Int)==100)&&true))) else false) then ((((a6.Value_.Lo:Int)==(A0 7).Lo)&&(((a6.Value_.Hi:Int)==(A0 7).Hi)&&true))&&(((a6.Key.Name==(⟨#[98]⟩:ByteArray))&&(((a6.Key.Tilt:Int)==0)&&(((a6.Key.Time:Int)==100)&&true)))&&true)) else false)))
def Ee (a0:(List mosaic_Message)):Option (List mosaic_Message) :=
  some a0
def Ef (a1:Int) (k2:(Int→(List mosaic_Message)→Option (List mosaic_Message))) (a0:(List mosaic_Message)):Option (List mosaic_Message) :=
  (ck (a1+1)).bind fun a2 =>
  k2 a2 a0
def Ed (F:Nat) (p0:mosaic_Node) (a5:Int) (k2:(Int→(List mosaic_Message)→Option (List mosaic_Message))) (a0:mosaic_Key) (k4:(Int→(List mosaic_Message)→Option (List mosaic_Message))) (a1:Int) (a2:(List mosaic_Message)):Option (List mosaic_Message) :=
  bif (decide (a1<((((lkM p0.kept a0).getD []).length:Nat):Int))) then ((Ba ((lkM p0.kept a0).getD []) a1).bind fun a4 =>
  (B5 F a4).bind fun a7 =>
  (apd 56 a2 ([(mosaic_Message.mk a0 a7)])).bind fun a3 =>
  (ck (a1+1)).bind fun a6 =>
  k4 a6 a3) else (Ef a5 k2 a2)
def Cp (F:Nat) (p0:mosaic_Node) (a1:Int) (k2:(Int→(List mosaic_Message)→Option (List mosaic_Message))) (a0:mosaic_Key):Nat→Int→(List mosaic_Message)→Option (List mosaic_Message)
  | 0,_,_=>none
  | n+1,a3,a2=>Ed F p0 a1 k2 a0 (Cp F p0 a1 k2 a0 n) a3 a2
def Ec (F:Nat) (p0:mosaic_Node) (a2:(List mosaic_Key)) (k2:(Int→(List mosaic_Message)→Option (List mosaic_Message))) (a0:Int) (a1:(List mosaic_Message)):Option (List mosaic_Message) :=
  bif (decide (a0<((a2.length:Nat):Int))) then ((Ba a2 a0).bind fun a3 =>
  Cp F p0 a0 k2 a3 F 0 a1) else (Ee a1)
def Co (F:Nat) (p0:mosaic_Node) (a0:(List mosaic_Key)):Nat→Int→(List mosaic_Message)→Option (List mosaic_Message)
  | 0,_,_=>none
  | n+1,a2,a1=>Ec F p0 a0 (Co F p0 a0 n) a2 a1
def E3 (F:Nat) (p0:mosaic_Node):Option (List mosaic_Message) :=
  (Ey F p0).bind fun a0 =>
  Co F p0 a0 F 0 ([])
def B8 (p0:api_Span) (p1:api_Span):Bool :=
  bif (decide (p0.Lo>p1.Hi)) then true else (decide (p1.Lo>p0.Hi))
def Cx (a1:((List mosaic_used)×(List (mosaic_where×(List api_Span))))) (a0:(List mosaic_Clash)):Option ((List mosaic_Clash)×Int×(List (mosaic_where×(List api_Span)))) :=
  some (a0,0,a1.2)
def Cy (a1:Int) (k2:(Int→(List mosaic_Clash)→Option ((List mosaic_Clash)×Int×(List (mosaic_where×(List api_Span)))))) (a0:(List mosaic_Clash)):Option ((List mosaic_Clash)×Int×(List (mosaic_where×(List api_Span)))) :=
  (ck (a1+1)).bind fun a2 =>
  k2 a2 a0
def Bz (a1:Int) (k4:(Int→(List mosaic_Clash)→Option ((List mosaic_Clash)×Int×(List (mosaic_where×(List api_Span)))))) (a0:(List mosaic_Clash)):Option ((List mosaic_Clash)×Int×(List (mosaic_where×(List api_Span)))) :=
  (ck (a1+1)).bind fun a2 =>
  k4 a2 a0
def C0 (a1:Int) (k6:(Int→(List mosaic_Clash)→Option ((List mosaic_Clash)×Int×(List (mosaic_where×(List api_Span)))))) (a0:(List mosaic_Clash)):Option ((List mosaic_Clash)×Int×(List (mosaic_where×(List api_Span)))) :=
  (ck (a1+1)).bind fun a2 =>
  k6 a2 a0
def Cw (a2:Int) (aC:Int) (k4:(Int→(List mosaic_Clash)→Option ((List mosaic_Clash)×Int×(List (mosaic_where×(List api_Span)))))) (a1:mosaic_used) (a8:(List mosaic_used)) (k6:(Int→(List mosaic_Clash)→Option ((List mosaic_Clash)×Int×(List (mosaic_where×(List api_Span)))))) (a4:Int) (a5:(List mosaic_Clash)):Option ((List mosaic_Clash)×Int×(List (mosaic_where×(List api_Span)))) :=
  bif (decide (a4<((a8.length:Nat):Int))) then ((Ba a8 a4).bind fun a0 =>
  (gd (((sEq a1.Key.Name a0.Key.Name)==false&&true)) (Ba a0.bands a2) default).bind fun a3 =>
  (gd (((bif (sEq a1.Key.Name a0.Key.Name) then true else (!(Am a3)))==false&&true)) (Ba a1.bands a2) default).bind fun a6 =>
  (gd (((bif (sEq a1.Key.Name a0.Key.Name) then true else (!(Am a3)))==false&&true)) (Ba a0.bands a2) default).bind fun a7 =>
  (gd (((bif (bif (sEq a1.Key.Name a0.Key.Name) then true else (!(Am a3))) then true else (B8 a6 a7))==false&&true)) (Ba a1.vals a2) default).bind fun aA =>
  (gd (((bif (bif (sEq a1.Key.Name a0.Key.Name) then true else (!(Am a3))) then true else (B8 a6 a7))==false&&true)) (Ba a0.vals a2) default).bind fun aB =>
  bif (bif (bif (bif (sEq a1.Key.Name a0.Key.Name) then true else (!(Am a3))) then true else (B8 a6 a7)) then true else (!(B8 aA aB))) then (C0 a4 k6 a5) else ((apd 72 a5 ([(mosaic_Clash.mk a2 a1.Key a0.Key)])).bind fun a9 =>
  C0 a4 k6 a9)) else (Bz aC k4 a5)
def C3 (a2:Int) (a3:Int) (k4:(Int→(List mosaic_Clash)→Option ((List mosaic_Clash)×Int×(List (mosaic_where×(List api_Span)))))) (a1:mosaic_used) (a0:(List mosaic_used)):Nat→Int→(List mosaic_Clash)→Option ((List mosaic_Clash)×Int×(List (mosaic_where×(List api_Span))))
  | 0,_,_=>none
  | n+1,a5,a4=>Cw a2 a3 k4 a1 a0 (C3 a2 a3 k4 a1 a0 n) a5 a4
def Cv (F:Nat) (a1:((List mosaic_used)×(List (mosaic_where×(List api_Span))))) (a3:Int) (k2:(Int→(List mosaic_Clash)→Option ((List mosaic_Clash)×Int×(List (mosaic_where×(List api_Span)))))) (k4:(Int→(List mosaic_Clash)→Option ((List mosaic_Clash)×Int×(List (mosaic_where×(List api_Span)))))) (a0:Int) (a2:(List mosaic_Clash)):Option ((List mosaic_Clash)×Int×(List (mosaic_where×(List api_Span)))) :=
  bif (decide (a0<((a1.1.length:Nat):Int))) then ((Ba a1.1 a0).bind fun a4 =>
  (Ba a4.bands a3).bind fun a6 =>
  bif (!(Am a6)) then (Bz a0 k4 a2) else ((ck (a0+1)).bind fun a7 =>
  (P7 a1.1 a7 ((a1.1.length:Nat):Int)).bind fun a5 =>
  C3 a3 a0 k4 a4 a5 F 0 a2)) else (Cy a3 k2 a2)
def C2 (F:Nat) (a1:((List mosaic_used)×(List (mosaic_where×(List api_Span))))) (a0:Int) (k2:(Int→(List mosaic_Clash)→Option ((List mosaic_Clash)×Int×(List (mosaic_where×(List api_Span)))))):Nat→Int→(List mosaic_Clash)→Option ((List mosaic_Clash)×Int×(List (mosaic_where×(List api_Span))))
  | 0,_,_=>none
  | n+1,a3,a2=>Cv F a1 a0 k2 (C2 F a1 a0 k2 n) a3 a2
def Cu (F:Nat) (a2:((List mosaic_used)×(List (mosaic_where×(List api_Span))))) (a3:Int) (k2:(Int→(List mosaic_Clash)→Option ((List mosaic_Clash)×Int×(List (mosaic_where×(List api_Span)))))) (a1:Int) (a0:(List mosaic_Clash)):Option ((List mosaic_Clash)×Int×(List (mosaic_where×(List api_Span)))) :=
  bif (decide (a1<a3)) then (C2 F a2 a1 k2 F 0 a0) else (Cx a2 a0)
def C1 (F:Nat) (a1:((List mosaic_used)×(List (mosaic_where×(List api_Span))))) (a0:Int):Nat→Int→(List mosaic_Clash)→Option ((List mosaic_Clash)×Int×(List (mosaic_where×(List api_Span))))
  | 0,_,_=>none
  | n+1,a3,a2=>Cu F a1 a0 (C1 F a1 a0 n) a3 a2
def Du (F:Nat) (p0:mosaic_Node) (p1:Int):Option ((List mosaic_Clash)×Int×(List (mosaic_where×(List api_Span)))) :=
  (D2 F p0 p1).bind fun a0 =>
  bif (a0 != 0) then (some (([]:(List mosaic_Clash)),a0,p0.looks)) else ((Ek F p0 p1).bind fun a2 =>
  (ck (p0.spec.Grid.Wide*p0.spec.Grid.High)).bind fun a1 =>
  C1 F a2 a1 F 0 ([]))
def E6 (F:Nat) (p0:mosaic_Node) (p1:Int):Option (Int×Int×mosaic_Node) :=
  (Bx F p0).bind fun a1 =>
  bif a1 then (some (0,1,p0)) else (bif (!(Bd p1 0 4294967296)) then (some (0,3,p0)) else (bif (decide (p1≤p0.horizon)) then (some (0,0,p0)) else ((Jm F p0 p1).bind fun a0 =>
  some (a0.1,0,(mosaic_Node.mk (mosaic_Spec.mk (api_Grid.mk a0.2.spec.Grid.X a0.2.spec.Grid.Y a0.2.spec.Grid.Size a0.2.spec.Grid.Wide a0.2.spec.Grid.High) (api_Span.mk a0.2.spec.Earth.Lo a0.2.spec.Earth.Hi) a0.2.spec.Radars a0.2.spec.Age) a0.2.radars a0.2.horizon a0.2.kept a0.2.count a0.2.looks)))))
def E4 (l:List mosaic_Key):List (mosaic_Key×Bool):=l.foldl (fun B k=>upM B k true) []
def R1 (p0:mosaic_Node) (G:List (mosaic_Key×Bool)) (x:mosaic_Message):Bool:=!((lkM G x.Key).getD false&&((((lkM p0.kept x.Key).getD []).length:Int)==1))
def F6 (F:Nat) (p0:mosaic_Node) (p1:List mosaic_Key):Option (List mosaic_Message×Int) :=
  if 256<p1.length then some ([],9) else (E3 F p0).bind fun l=>if l.length≤1000000 then some (l.filter (R1 p0 (E4 p1)),0) else none
def Dp (F:Nat) (a4:(Bool×Int×mosaic_Node)) (aG:((List mosaic_Clash)×Int×(List (mosaic_where×(List api_Span))))):Option Bool :=
  (Bi F (⟨#[97]⟩:ByteArray) 200 8).bind fun aH =>
  (Az F (mosaic_Node.mk (mosaic_Spec.mk (api_Grid.mk a4.2.2.spec.Grid.X a4.2.2.spec.Grid.Y a4.2.2.spec.Grid.Size a4.2.2.spec.Grid.Wide a4.2.2.spec.Grid.High) (api_Span.mk a4.2.2.spec.Earth.Lo a4.2.2.spec.Earth.Hi) a4.2.2.spec.Radars a4.2.2.spec.Age) a4.2.2.radars a4.2.2.horizon a4.2.2.kept a4.2.2.count aG.2.2) aH).bind fun a0 =>
  (C5 F (mosaic_Node.mk (mosaic_Spec.mk (api_Grid.mk a0.2.2.spec.Grid.X a0.2.2.spec.Grid.Y a0.2.2.spec.Grid.Size a0.2.2.spec.Grid.Wide a0.2.2.spec.Grid.High) (api_Span.mk a0.2.2.spec.Earth.Lo a0.2.2.spec.Earth.Hi) a0.2.2.spec.Radars a0.2.2.spec.Age) a0.2.2.radars a0.2.2.horizon a0.2.2.kept a0.2.2.count a0.2.2.looks) 210).bind fun a7 =>
  (Ey F (mosaic_Node.mk (mosaic_Spec.mk (api_Grid.mk a0.2.2.spec.Grid.X a0.2.2.spec.Grid.Y a0.2.2.spec.Grid.Size a0.2.2.spec.Grid.Wide a0.2.2.spec.Grid.High) (api_Span.mk a0.2.2.spec.Earth.Lo a0.2.2.spec.Earth.Hi) a0.2.2.spec.Radars a0.2.2.spec.Age) a0.2.2.radars a0.2.2.horizon a0.2.2.kept a0.2.2.count a7.2.2)).bind fun aA =>
  (gd (((bif (bif (!a0.1) then true else (a0.2.1 != 0)) then true else (a7.2.1 != 0))==false&&true)) (Ba a7.1 0) default).bind fun a2 =>
  (gd (((bif (bif (bif (bif (!a0.1) then true else (a0.2.1 != 0)) then true else (a7.2.1 != 0)) then true else (!((((a2.Value_.Lo:Int)==(A0 8).Lo)&&(((a2.Value_.Hi:Int)==(A0 8).Hi)&&true))&&(((a2.Key.Name==(⟨#[97]⟩:ByteArray))&&(((a2.Key.Tilt:Int)==0)&&(((a2.Key.Time:Int)==200)&&true)))&&true)))) then true else (((aA.length:Nat):Int) != 3))==false&&true)) (Ba aA 0) default).bind fun a5 =>
  (gd (((bif (bif (bif (bif (bif (!a0.1) then true else (a0.2.1 != 0)) then true else (a7.2.1 != 0)) then true else (!((((a2.Value_.Lo:Int)==(A0 8).Lo)&&(((a2.Value_.Hi:Int)==(A0 8).Hi)&&true))&&(((a2.Key.Name==(⟨#[97]⟩:ByteArray))&&(((a2.Key.Tilt:Int)==0)&&(((a2.Key.Time:Int)==200)&&true)))&&true)))) then true else (((aA.length:Nat):Int) != 3)) then true else (!((a5.Name==(⟨#[97]⟩:ByteArray))&&(((a5.Tilt:Int)==0)&&(((a5.Time:Int)==100)&&true)))))==false&&true)) (Ba aA 1) default).bind fun a8 =>
  (gd (((bif (bif (bif (bif (bif (bif (!a0.1) then true else (a0.2.1 != 0)) then true else (a7.2.1 != 0)) then true else (!((((a2.Value_.Lo:Int)==(A0 8).Lo)&&(((a2.Value_.Hi:Int)==(A0 8).Hi)&&true))&&(((a2.Key.Name==(⟨#[97]⟩:ByteArray))&&(((a2.Key.Tilt:Int)==0)&&(((a2.Key.Time:Int)==200)&&true)))&&true)))) then true else (((aA.length:Nat):Int) != 3)) then true else (!((a5.Name==(⟨#[97]⟩:ByteArray))&&(((a5.Tilt:Int)==0)&&(((a5.Time:Int)==100)&&true))))) then true else (!((a8.Name==(⟨#[98]⟩:ByteArray))&&(((a8.Tilt:Int)==0)&&(((a8.Time:Int)==100)&&true)))))==false&&true)) (Ba aA 2) default).bind fun aD =>
  (gd (((bif (bif (bif (bif (bif (bif (!a0.1) then true else (a0.2.1 != 0)) then true else (a7.2.1 != 0)) then true else (!((((a2.Value_.Lo:Int)==(A0 8).Lo)&&(((a2.Value_.Hi:Int)==(A0 8).Hi)&&true))&&(((a2.Key.Name==(⟨#[97]⟩:ByteArray))&&(((a2.Key.Tilt:Int)==0)&&(((a2.Key.Time:Int)==200)&&true)))&&true)))) then true else (((aA.length:Nat):Int) != 3)) then true else (!((a5.Name==(⟨#[97]⟩:ByteArray))&&(((a5.Tilt:Int)==0)&&(((a5.Time:Int)==100)&&true))))) then true else (!((a8.Name==(⟨#[98]⟩:ByteArray))&&(((a8.Tilt:Int)==0)&&(((a8.Time:Int)==100)&&true)))))==false&&true)) (Ba a7.1 0) default).bind fun aE =>
  bif (bif (bif (bif (bif (bif (bif (bif (!a0.1) then true else (a0.2.1 != 0)) then true else (a7.2.1 != 0)) then true else (!((((a2.Value_.Lo:Int)==(A0 8).Lo)&&(((a2.Value_.Hi:Int)==(A0 8).Hi)&&true))&&(((a2.Key.Name==(⟨#[97]⟩:ByteArray))&&(((a2.Key.Tilt:Int)==0)&&(((a2.Key.Time:Int)==200)&&true)))&&true)))) then true else (((aA.length:Nat):Int) != 3)) then true else (!((a5.Name==(⟨#[97]⟩:ByteArray))&&(((a5.Tilt:Int)==0)&&(((a5.Time:Int)==100)&&true))))) then true else (!((a8.Name==(⟨#[98]⟩:ByteArray))&&(((a8.Tilt:Int)==0)&&(((a8.Time:Int)==100)&&true))))) then true else (!((aD.Name==aE.Key.Name)&&(((aD.Tilt:Int)==aE.Key.Tilt)&&(((aD.Time:Int)==aE.Key.Time)&&true))))) then (some false) else ((E6 F (mosaic_Node.mk (mosaic_Spec.mk (api_Grid.mk a0.2.2.spec.Grid.X a0.2.2.spec.Grid.Y a0.2.2.spec.Grid.Size a0.2.2.spec.Grid.Wide a0.2.2.spec.Grid.High) (api_Span.mk a0.2.2.spec.Earth.Lo a0.2.2.spec.Earth.Hi) a0.2.2.spec.Radars a0.2.2.spec.Age) a0.2.2.radars a0.2.2.horizon a0.2.2.kept a0.2.2.count a7.2.2) 150).bind fun a3 =>
  (Bi F (⟨#[97]⟩:ByteArray) 149 1).bind fun aI =>
  (Az F (mosaic_Node.mk (mosaic_Spec.mk (api_Grid.mk a3.2.2.spec.Grid.X a3.2.2.spec.Grid.Y a3.2.2.spec.Grid.Size a3.2.2.spec.Grid.Wide a3.2.2.spec.Grid.High) (api_Span.mk a3.2.2.spec.Earth.Lo a3.2.2.spec.Earth.Hi) a3.2.2.spec.Radars a3.2.2.spec.Age) a3.2.2.radars a3.2.2.horizon a3.2.2.kept a3.2.2.count a3.2.2.looks) aI).bind fun a1 =>
  (C5 F (mosaic_Node.mk (mosaic_Spec.mk (api_Grid.mk a1.2.2.spec.Grid.X a1.2.2.spec.Grid.Y a1.2.2.spec.Grid.Size a1.2.2.spec.Grid.Wide a1.2.2.spec.Grid.High) (api_Span.mk a1.2.2.spec.Earth.Lo a1.2.2.spec.Earth.Hi) a1.2.2.spec.Radars a1.2.2.spec.Age) a1.2.2.radars a1.2.2.horizon a1.2.2.kept a1.2.2.count a1.2.2.looks) 149).bind fun aB =>
  (F6 F (mosaic_Node.mk (mosaic_Spec.mk (api_Grid.mk a1.2.2.spec.Grid.X a1.2.2.spec.Grid.Y a1.2.2.spec.Grid.Size a1.2.2.spec.Grid.Wide a1.2.2.spec.Grid.High) (api_Span.mk a1.2.2.spec.Earth.Lo a1.2.2.spec.Earth.Hi) a1.2.2.spec.Radars a1.2.2.spec.Age) a1.2.2.radars a1.2.2.horizon a1.2.2.kept a1.2.2.count aB.2.2) ([]:(List mosaic_Key))).bind fun a6 =>
  (F6 F (mosaic_Node.mk (mosaic_Spec.mk (api_Grid.mk a1.2.2.spec.Grid.X a1.2.2.spec.Grid.Y a1.2.2.spec.Grid.Size a1.2.2.spec.Grid.Wide a1.2.2.spec.Grid.High) (api_Span.mk a1.2.2.spec.Earth.Lo a1.2.2.spec.Earth.Hi) a1.2.2.spec.Radars a1.2.2.spec.Age) a1.2.2.radars a1.2.2.horizon a1.2.2.kept a1.2.2.count aB.2.2) ([(mosaic_Key.mk (⟨#[97]⟩:ByteArray) 0 200)])).bind fun a9 =>
  bif (bif (bif (bif (bif (bif (bif (a3.1==2) then (a3.2.1==0) else false) then (a1.2.1==17) else false) then (aB.2.1==17) else false) then (a6.2==0) else false) then (a9.2==0) else false) then (((a6.1.length:Nat):Int)==1) else false) then ((Ba a6.1 0).bind fun aF =>
  (Ba aF.Vals 0).bind fun aC =>
  (gd (((bif (bif (bif (bif (bif (bif (bif (bif (a3.1==2) then (a3.2.1==0) else false) then (a1.2.1==17) else false) then (aB.2.1==17) else false) then (a6.2==0) else false) then (a9.2==0) else false) then (((a6.1.length:Nat):Int)==1) else false) then (((aC.Lo:Int)==(A0 8).Lo)&&(((aC.Hi:Int)==(A0 8).Hi)&&true)) else false) then (((a9.1.length:Nat):Int)==0) else false)==true&&true)) (Gt F) default).bind fun aJ =>
  some (bif (bif (bif (bif (bif (bif (bif (bif (bif (a3.1==2) then (a3.2.1==0) else false) then (a1.2.1==17) else false) then (aB.2.1==17) else false) then (a6.2==0) else false) then (a9.2==0) else false) then (((a6.1.length:Nat):Int)==1) else false) then (((aC.Lo:Int)==(A0 8).Lo)&&(((aC.Hi:Int)==(A0 8).Hi)&&true)) else false) then (((a9.1.length:Nat):Int)==0) else false) then aJ else false)) else ((gd (((bif (bif (bif (bif (bif (bif (bif (bif (a3.1==2) then (a3.2.1==0) else false) then (a1.2.1==17) else false) then (aB.2.1==17) else false) then (a6.2==0) else false) then (a9.2==0) else false) then (((a6.1.length:Nat):Int)==1) else false) then false else false) then (((a9.1.length:Nat):Int)==0) else false)==true&&true)) (Gt F) default).bind fun aK =>
  some (bif (bif (bif (bif (bif (bif (bif (bif (bif (a3.1==2) then (a3.2.1==0) else false) then (a1.2.1==17) else false) then (aB.2.1==17) else false) then (a6.2==0) else false) then (a9.2==0) else false) then (((a6.1.length:Nat):Int)==1) else false) then false else false) then (((a9.1.length:Nat):Int)==0) else false) then aK else false)))
def Dl (F:Nat) (a5:(Bool×Int×mosaic_Node)) (a2:((List mosaic_Clash)×Int×(List (mosaic_where×(List api_Span))))) (k3:(Int→Option Bool)) (a1:Int):Option Bool :=
  bif (decide (a1<4)) then ((Ba a2.1 a1).bind fun a0 =>
  (Ba ([1,2,5,6]) a1).bind fun a3 =>
  bif (!(((a0.Pixel:Int)==a3)&&(((a0.A.Name==(⟨#[97]⟩:ByteArray))&&(((a0.A.Tilt:Int)==0)&&(((a0.A.Time:Int)==100)&&true)))&&(((a0.B.Name==(⟨#[98]⟩:ByteArray))&&(((a0.B.Tilt:Int)==0)&&(((a0.B.Time:Int)==100)&&true)))&&true)))) then (some false) else ((ck (a1+1)).bind fun a4 =>
  k3 a4)) else (Dp F a5 a2)
def Ce (F:Nat) (a0:(Bool×Int×mosaic_Node)) (a1:((List mosaic_Clash)×Int×(List (mosaic_where×(List api_Span))))):Nat→Int→Option Bool
  | 0,_=>none
  | n+1,a2=>Dl F a0 a1 (Ce F a0 a1 n) a2
def Do (F:Nat) (a0:(Bool×Int×mosaic_Node)) (a2:(List (mosaic_where×(List api_Span)))):Option Bool :=
  (Du F (mosaic_Node.mk (mosaic_Spec.mk (api_Grid.mk a0.2.2.spec.Grid.X a0.2.2.spec.Grid.Y a0.2.2.spec.Grid.Size a0.2.2.spec.Grid.Wide a0.2.2.spec.Grid.High) (api_Span.mk a0.2.2.spec.Earth.Lo a0.2.2.spec.Earth.Hi) a0.2.2.spec.Radars a0.2.2.spec.Age) a0.2.2.radars a0.2.2.horizon a0.2.2.kept a0.2.2.count a2) 110).bind fun a1 =>
  bif (bif (a1.2.1 != 0) then true else (((a1.1.length:Nat):Int) != 4)) then (some false) else (Ce F a0 a1 F 0)
def Dq (a1:Int) (k4:((List (mosaic_where×(List api_Span)))→Int→Option Bool)) (a0:(List (mosaic_where×(List api_Span)))):Option Bool :=
  (ck (a1+1)).bind fun a2 =>
  k4 a0 a2
def Dn (a3:Int) (k4:((List (mosaic_where×(List api_Span)))→Int→Option Bool)) (a4:((List mosaic_Pixel)×Int×(List (mosaic_where×(List api_Span))))) (k6:(Int→Option Bool)) (a2:Int):Option Bool :=
  bif (decide (a2<4)) then ((Ba a4.1 a2).bind fun a0 =>
  (Ba ([[(mosaic_Pixel.mk (A0 5) (mosaic_Key.mk (⟨#[97]⟩:ByteArray) 0 100)),(mosaic_Pixel.mk (A0 5) (mosaic_Key.mk (⟨#[97]⟩:ByteArray) 0 100)),(mosaic_Pixel.mk (A0 5) (mosaic_Key.mk (⟨#[97]⟩:ByteArray) 0 100)),(mosaic_Pixel.mk (api_Span.mk 0 1000000) (mosaic_Key.mk ByteArray.empty 0 0))],[(mosaic_Pixel.mk (A0 5) (mosaic_Key.mk (⟨#[97]⟩:ByteArray) 0 100)),(mosaic_Pixel.mk (A0 5) (mosaic_Key.mk (⟨#[97]⟩:ByteArray) 0 100)),(mosaic_Pixel.mk (A0 5) (mosaic_Key.mk (⟨#[97]⟩:ByteArray) 0 100)),(mosaic_Pixel.mk (A0 7) (mosaic_Key.mk (⟨#[98]⟩:ByteArray) 0 100))],[(mosaic_Pixel.mk (A0 5) (mosaic_Key.mk (⟨#[97]⟩:ByteArray) 0 100)),(mosaic_Pixel.mk (A0 5) (mosaic_Key.mk (⟨#[97]⟩:ByteArray) 0 100)),(mosaic_Pixel.mk (A0 5) (mosaic_Key.mk (⟨#[97]⟩:ByteArray) 0 100)),(mosaic_Pixel.mk (A0 7) (mosaic_Key.mk (⟨#[98]⟩:ByteArray) 0 100))],[(mosaic_Pixel.mk (api_Span.mk 0 1000000) (mosaic_Key.mk ByteArray.empty 0 0)),(mosaic_Pixel.mk (A0 7) (mosaic_Key.mk (⟨#[98]⟩:ByteArray) 0 100)),(mosaic_Pixel.mk (A0 7) (mosaic_Key.mk (⟨#[98]⟩:ByteArray) 0 100)),(mosaic_Pixel.mk (A0 7) (mosaic_Key.mk (⟨#[98]⟩:ByteArray) 0 100))]]) a3).bind fun a5 =>
  (Ba a5 a2).bind fun a1 =>
  bif (!((((a0.Value_.Lo:Int)==a1.Value_.Lo)&&(((a0.Value_.Hi:Int)==a1.Value_.Hi)&&true))&&(((a0.Key.Name==a1.Key.Name)&&(((a0.Key.Tilt:Int)==a1.Key.Tilt)&&(((a0.Key.Time:Int)==a1.Key.Time)&&true)))&&true))) then (some false) else ((ck (a2+1)).bind fun a6 =>
  k6 a6)) else (Dq a3 k4 a4.2.2)
def Cg (a0:Int) (k4:((List (mosaic_where×(List api_Span)))→Int→Option Bool)) (a1:((List mosaic_Pixel)×Int×(List (mosaic_where×(List api_Span))))):Nat→Int→Option Bool
  | 0,_=>none
  | n+1,a2=>Dn a0 k4 a1 (Cg a0 k4 a1 n) a2
def Dm (F:Nat) (a0:(Bool×Int×mosaic_Node)) (k4:((List (mosaic_where×(List api_Span)))→Int→Option Bool)) (a3:(List (mosaic_where×(List api_Span)))) (a1:Int):Option Bool :=
  bif (decide (a1<4)) then ((Ba ([100,110,700,701]) a1).bind fun a4 =>
  (C5 F (mosaic_Node.mk (mosaic_Spec.mk (api_Grid.mk a0.2.2.spec.Grid.X a0.2.2.spec.Grid.Y a0.2.2.spec.Grid.Size a0.2.2.spec.Grid.Wide a0.2.2.spec.Grid.High) (api_Span.mk a0.2.2.spec.Earth.Lo a0.2.2.spec.Earth.Hi) a0.2.2.spec.Radars a0.2.2.spec.Age) a0.2.2.radars a0.2.2.horizon a0.2.2.kept a0.2.2.count a3) a4).bind fun a2 =>
  bif (bif (a2.2.1 != 0) then true else (((a2.1.length:Nat):Int) != 8)) then (some false) else (Cg a1 k4 a2 F 0)) else (Do F a0 a3)
def Cf (F:Nat) (a0:(Bool×Int×mosaic_Node)):Nat→(List (mosaic_where×(List api_Span)))→Int→Option Bool
  | 0,_,_=>none
  | n+1,a1,a2=>Dm F a0 (Cf F a0 n) a1 a2
def Dh (F:Nat):Option Bool :=
  (Gh F (mosaic_Spec.mk (api_Grid.mk law11_S.Grid.X law11_S.Grid.Y law11_S.Grid.Size law11_S.Grid.Wide law11_S.Grid.High) (api_Span.mk law11_S.Earth.Lo law11_S.Earth.Hi) law11_S.Radars law11_S.Age)).bind fun y7 =>
  exc y7 (fun aA=>bif (aA != 0) then (some false) else (none)) (fun a4=>bif (a4.2 != 0) then (some false) else ((Bi F (⟨#[97]⟩:ByteArray) 100 5).bind fun aE =>
  (Az F (mosaic_Node.mk (mosaic_Spec.mk (api_Grid.mk a4.1.spec.Grid.X a4.1.spec.Grid.Y a4.1.spec.Grid.Size a4.1.spec.Grid.Wide a4.1.spec.Grid.High) (api_Span.mk a4.1.spec.Earth.Lo a4.1.spec.Earth.Hi) a4.1.spec.Radars a4.1.spec.Age) a4.1.radars a4.1.horizon a4.1.kept a4.1.count a4.1.looks) aE).bind fun a0 =>
  (Bi F (⟨#[97]⟩:ByteArray) 100 5).bind fun aF =>
  (Az F (mosaic_Node.mk (mosaic_Spec.mk (api_Grid.mk a0.2.2.spec.Grid.X a0.2.2.spec.Grid.Y a0.2.2.spec.Grid.Size a0.2.2.spec.Grid.Wide a0.2.2.spec.Grid.High) (api_Span.mk a0.2.2.spec.Earth.Lo a0.2.2.spec.Earth.Hi) a0.2.2.spec.Radars a0.2.2.spec.Age) a0.2.2.radars a0.2.2.horizon a0.2.2.kept a0.2.2.count a0.2.2.looks) aF).bind fun a1 =>
  (Bi F (⟨#[97]⟩:ByteArray) 100 6).bind fun aG =>
  (Az F (mosaic_Node.mk (mosaic_Spec.mk (api_Grid.mk a1.2.2.spec.Grid.X a1.2.2.spec.Grid.Y a1.2.2.spec.Grid.Size a1.2.2.spec.Grid.Wide a1.2.2.spec.Grid.High) (api_Span.mk a1.2.2.spec.Earth.Lo a1.2.2.spec.Earth.Hi) a1.2.2.spec.Radars a1.2.2.spec.Age) a1.2.2.radars a1.2.2.horizon a1.2.2.kept a1.2.2.count a1.2.2.looks) aG).bind fun a2 =>
  (Fk F (mosaic_Node.mk (mosaic_Spec.mk (api_Grid.mk a2.2.2.spec.Grid.X a2.2.2.spec.Grid.Y a2.2.2.spec.Grid.Size a2.2.2.spec.Grid.Wide a2.2.2.spec.Grid.High) (api_Span.mk a2.2.2.spec.Earth.Lo a2.2.2.spec.Earth.Hi) a2.2.2.spec.Radars a2.2.2.spec.Age) a2.2.2.radars a2.2.2.horizon a2.2.2.kept a2.2.2.count a2.2.2.looks)).bind fun a7 =>
  (gd (((bif (bif (bif (bif (bif (bif (!a0.1) then true else a1.1) then true else (!a2.1)) then true else (a0.2.1 != 0)) then true else (a1.2.1 != 0)) then true else (a2.2.1 != 0)) then true else (((a7.length:Nat):Int) != 1))==false&&true)) (Ba a7 0) default).bind fun a6 =>
  bif (bif (bif (bif (bif (bif (bif (bif (!a0.1) then true else a1.1) then true else (!a2.1)) then true else (a0.2.1 != 0)) then true else (a1.2.1 != 0)) then true else (a2.2.1 != 0)) then true else (((a7.length:Nat):Int) != 1)) then true else (!((a6.Name==(⟨#[97]⟩:ByteArray))&&(((a6.Tilt:Int)==0)&&(((a6.Time:Int)==100)&&true))))) then (some false) else ((Gh F (mosaic_Spec.mk (api_Grid.mk law11_S.Grid.X law11_S.Grid.Y law11_S.Grid.Size law11_S.Grid.Wide law11_S.Grid.High) (api_Span.mk law11_S.Earth.Lo law11_S.Earth.Hi) law11_S.Radars law11_S.Age)).bind fun aB =>
  exc aB (fun a9=>bif (a9 != 0) then (some false) else (none)) (fun a3=>bif (a3.2 != 0) then (some false) else ((Bi F (⟨#[97]⟩:ByteArray) 100 5).bind fun aC =>
  (Az F (mosaic_Node.mk (mosaic_Spec.mk (api_Grid.mk a3.1.spec.Grid.X a3.1.spec.Grid.Y a3.1.spec.Grid.Size a3.1.spec.Grid.Wide a3.1.spec.Grid.High) (api_Span.mk a3.1.spec.Earth.Lo a3.1.spec.Earth.Hi) a3.1.spec.Radars a3.1.spec.Age) a3.1.radars a3.1.horizon a3.1.kept a3.1.count a3.1.looks) aC).bind fun a5 =>
  (Bi F (⟨#[98]⟩:ByteArray) 100 7).bind fun aD =>
  (Az F (mosaic_Node.mk (mosaic_Spec.mk (api_Grid.mk a5.2.2.spec.Grid.X a5.2.2.spec.Grid.Y a5.2.2.spec.Grid.Size a5.2.2.spec.Grid.Wide a5.2.2.spec.Grid.High) (api_Span.mk a5.2.2.spec.Earth.Lo a5.2.2.spec.Earth.Hi) a5.2.2.spec.Radars a5.2.2.spec.Age) a5.2.2.radars a5.2.2.horizon a5.2.2.kept a5.2.2.count a5.2.2.looks) aD).bind fun a8 =>
  Cf F a8 F a8.2.2.looks 0)))))
end Go.Proofs.YtkbjbnkkfifbmaaGreat
