import Derived.Test.YtkbjbnkkfifbmaaGreatN11EB
namespace Go.Proofs.YtkbjbnkkfifbmaaGreat
open Go Go.RowKit Go.Eng
set_option maxRecDepth 10000
set_option maxHeartbeats 4000000
set_option linter.unusedVariables false
set_option linter.unusedSimpArgs false
structure api_Grid where
  X:Int
  Y:Int
  Size:Int
  Wide:Int
  High:Int
  deriving Inhabited,DecidableEq
def api_Grid.cells (x:api_Grid):List Value:=[.int .i64 x.X,.int .i64 x.Y,.int .i64 x.Size,.int .i64 x.Wide,.int .i64 x.High]
structure api_Span where
  Lo:Int
  Hi:Int
  deriving Inhabited,DecidableEq
def api_Span.cells (x:api_Span):List Value:=[.int .i64 x.Lo,.int .i64 x.Hi]
theorem api_Span.cells_len (x:api_Span):(api_Span.cells x).length=2:=rfl
structure api_Site where
  Name:ByteArray
  X:Int
  Y:Int
  Z:Int
  Rose:Int
  Gates:Int
  Step:Int
  Width:Int
  deriving Inhabited,DecidableEq
def api_Site.cells (x:api_Site):List Value:=[.string x.Name,.int .i64 x.X,.int .i64 x.Y,.int .i64 x.Z,.int .i64 x.Rose,.int .i64 x.Gates,.int .i64 x.Step,.int .i64 x.Width]
structure mosaic_Radar where
  Site:api_Site
  Offset:api_Span
  deriving Inhabited,DecidableEq
def mosaic_Radar.cells (x:mosaic_Radar):List Value:=[.string x.Site.Name,.int .i64 x.Site.X,.int .i64 x.Site.Y,.int .i64 x.Site.Z,.int .i64 x.Site.Rose,.int .i64 x.Site.Gates,.int .i64 x.Site.Step,.int .i64 x.Site.Width,.int .i64 x.Offset.Lo,.int .i64 x.Offset.Hi]
theorem mosaic_Radar.cells_len (x:mosaic_Radar):(mosaic_Radar.cells x).length=10:=rfl
structure mosaic_Spec where
  Grid:api_Grid
  Earth:api_Span
  Radars:(List mosaic_Radar)
  Age:Int
  deriving Inhabited,DecidableEq
structure mosaic_Key where
  Name:ByteArray
  Tilt:Int
  Time:Int
  deriving Inhabited,DecidableEq
def mosaic_Key.cells (x:mosaic_Key):List Value:=[.string x.Name,.int .i64 x.Tilt,.int .i64 x.Time]
theorem mosaic_Key.cells_len (x:mosaic_Key):(mosaic_Key.cells x).length=3:=rfl
structure mosaic_where where
  name:ByteArray
  tilt:Int
  deriving Inhabited,DecidableEq
def mosaic_where.cells (x:mosaic_where):List Value:=[.string x.name,.int .i64 x.tilt]
structure mosaic_Node where
  spec:mosaic_Spec
  radars:(List (ByteArray×mosaic_Radar))
  horizon:Int
  kept:(List (mosaic_Key×(List (List api_Span))))
  count:Int
  looks:(List (mosaic_where×(List api_Span)))
  deriving Inhabited,DecidableEq
structure mosaic_Message where
  Key:mosaic_Key
  Vals:(List api_Span)
  deriving Inhabited,DecidableEq
structure beam_slant where
  c:Int
  s:Int
  d:Int
  deriving Inhabited,DecidableEq
def beam_slant.cells (x:beam_slant):List Value:=[.int .i64 x.c,.int .i64 x.s,.int .i64 x.d]
structure beam_vector where
  x:Int
  y:Int
  length:Int
  deriving Inhabited,DecidableEq
def beam_vector.cells (x:beam_vector):List Value:=[.int .i64 x.x,.int .i64 x.y,.int .i64 x.length]
structure mosaic_used where
  Key:mosaic_Key
  vals:(List api_Span)
  bands:(List api_Span)
  deriving Inhabited,DecidableEq
structure mosaic_Pixel where
  Value_:api_Span
  Key:mosaic_Key
  deriving Inhabited,DecidableEq
def mosaic_Pixel.cells (x:mosaic_Pixel):List Value:=[.int .i64 x.Value_.Lo,.int .i64 x.Value_.Hi,.string x.Key.Name,.int .i64 x.Key.Tilt,.int .i64 x.Key.Time]
theorem mosaic_Pixel.cells_len (x:mosaic_Pixel):(mosaic_Pixel.cells x).length=5:=rfl
structure api_Field where
  Grid:api_Grid
  Vals:(List api_Span)
  deriving Inhabited,DecidableEq
structure mosaic_Clash where
  Pixel:Int
  A:mosaic_Key
  B:mosaic_Key
  deriving Inhabited,DecidableEq
def mosaic_Clash.cells (x:mosaic_Clash):List Value:=[.int .i64 x.Pixel,.string x.A.Name,.int .i64 x.A.Tilt,.int .i64 x.A.Time,.string x.B.Name,.int .i64 x.B.Tilt,.int .i64 x.B.Time]
abbrev api_Grid.ar (x:api_Grid):Array Value:=#[.int .i64 x.X,.int .i64 x.Y,.int .i64 x.Size,.int .i64 x.Wide,.int .i64 x.High]
abbrev api_Grid.ag (x:api_Grid):Value:=.agg #[.int .i64 x.X,.int .i64 x.Y,.int .i64 x.Size,.int .i64 x.Wide,.int .i64 x.High]
abbrev api_Site.ar (x:api_Site):Array Value:=#[.string x.Name,.int .i64 x.X,.int .i64 x.Y,.int .i64 x.Z,.int .i64 x.Rose,.int .i64 x.Gates,.int .i64 x.Step,.int .i64 x.Width]
abbrev api_Site.ag (x:api_Site):Value:=.agg #[.string x.Name,.int .i64 x.X,.int .i64 x.Y,.int .i64 x.Z,.int .i64 x.Rose,.int .i64 x.Gates,.int .i64 x.Step,.int .i64 x.Width]
abbrev mosaic_Radar.ar (x:mosaic_Radar):Array Value:=#[.string x.Site.Name,.int .i64 x.Site.X,.int .i64 x.Site.Y,.int .i64 x.Site.Z,.int .i64 x.Site.Rose,.int .i64 x.Site.Gates,.int .i64 x.Site.Step,.int .i64 x.Site.Width,.int .i64 x.Offset.Lo,.int .i64 x.Offset.Hi]
abbrev mosaic_Radar.ag (x:mosaic_Radar):Value:=.agg #[.string x.Site.Name,.int .i64 x.Site.X,.int .i64 x.Site.Y,.int .i64 x.Site.Z,.int .i64 x.Site.Rose,.int .i64 x.Site.Gates,.int .i64 x.Site.Step,.int .i64 x.Site.Width,.int .i64 x.Offset.Lo,.int .i64 x.Offset.Hi]
abbrev mosaic_Key.ar (x:mosaic_Key):Array Value:=#[.string x.Name,.int .i64 x.Tilt,.int .i64 x.Time]
abbrev mosaic_Key.ag (x:mosaic_Key):Value:=.agg #[.string x.Name,.int .i64 x.Tilt,.int .i64 x.Time]
abbrev beam_slant.ar (x:beam_slant):Array Value:=#[.int .i64 x.c,.int .i64 x.s,.int .i64 x.d]
abbrev beam_slant.ag (x:beam_slant):Value:=.agg #[.int .i64 x.c,.int .i64 x.s,.int .i64 x.d]
abbrev beam_vector.ar (x:beam_vector):Array Value:=#[.int .i64 x.x,.int .i64 x.y,.int .i64 x.length]
abbrev beam_vector.ag (x:beam_vector):Value:=.agg #[.int .i64 x.x,.int .i64 x.y,.int .i64 x.length]
abbrev mosaic_Pixel.ar (x:mosaic_Pixel):Array Value:=#[.int .i64 x.Value_.Lo,.int .i64 x.Value_.Hi,.string x.Key.Name,.int .i64 x.Key.Tilt,.int .i64 x.Key.Time]
abbrev mosaic_Pixel.ag (x:mosaic_Pixel):Value:=.agg #[.int .i64 x.Value_.Lo,.int .i64 x.Value_.Hi,.string x.Key.Name,.int .i64 x.Key.Tilt,.int .i64 x.Key.Time]
abbrev mosaic_Node.ax (x:mosaic_Node) (adg1_:Option Addr) (capg2_:Nat) (mg3_:Nat) (mg4_:Nat) (mg5_:Nat):Array Value:=#[.int .i64 x.spec.Grid.X,.int .i64 x.spec.Grid.Y,.int .i64 x.spec.Grid.Size,.int .i64 x.spec.Grid.Wide,.int .i64 x.spec.Grid.High,.int .i64 x.spec.Earth.Lo,.int .i64 x.spec.Earth.Hi,.slice adg1_ x.spec.Radars.length capg2_,.int .i64 x.spec.Age,.map (some mg3_),.int .i64 x.horizon,.map (some mg4_),.int .i64 x.count,.map (some mg5_)]
abbrev mosaic_Spec.ax (x:mosaic_Spec) (adg1_:Option Addr) (capg2_:Nat):Array Value:=#[.int .i64 x.Grid.X,.int .i64 x.Grid.Y,.int .i64 x.Grid.Size,.int .i64 x.Grid.Wide,.int .i64 x.Grid.High,.int .i64 x.Earth.Lo,.int .i64 x.Earth.Hi,.slice adg1_ x.Radars.length capg2_,.int .i64 x.Age]
abbrev api_Field.ax (x:api_Field) (adg1_:Option Addr) (capg2_:Nat):Array Value:=#[.int .i64 x.Grid.X,.int .i64 x.Grid.Y,.int .i64 x.Grid.Size,.int .i64 x.Grid.Wide,.int .i64 x.Grid.High,.slice adg1_ x.Vals.length capg2_]
abbrev api_Grid.e0 (x:api_Grid):Bool:=(((x.X:Int)==0)&&(((x.Y:Int)==0)&&(((x.Size:Int)==0)&&(((x.Wide:Int)==0)&&(((x.High:Int)==0)&&true)))))
abbrev api_Site.e0 (x:api_Site):Bool:=((x.Name==ByteArray.empty)&&(((x.X:Int)==0)&&(((x.Y:Int)==0)&&(((x.Z:Int)==0)&&(((x.Rose:Int)==0)&&(((x.Gates:Int)==0)&&(((x.Step:Int)==0)&&(((x.Width:Int)==0)&&true))))))))
abbrev mosaic_Radar.e0 (x:mosaic_Radar):Bool:=((x.Site.Name==ByteArray.empty)&&(((x.Site.X:Int)==0)&&(((x.Site.Y:Int)==0)&&(((x.Site.Z:Int)==0)&&(((x.Site.Rose:Int)==0)&&(((x.Site.Gates:Int)==0)&&(((x.Site.Step:Int)==0)&&(((x.Site.Width:Int)==0)&&(((x.Offset.Lo:Int)==0)&&(((x.Offset.Hi:Int)==0)&&true))))))))))
abbrev mosaic_Key.e0 (x:mosaic_Key):Bool:=((x.Name==ByteArray.empty)&&(((x.Tilt:Int)==0)&&(((x.Time:Int)==0)&&true)))
abbrev beam_slant.e0 (x:beam_slant):Bool:=(((x.c:Int)==0)&&(((x.s:Int)==0)&&(((x.d:Int)==0)&&true)))
abbrev beam_vector.e0 (x:beam_vector):Bool:=(((x.x:Int)==0)&&(((x.y:Int)==0)&&(((x.length:Int)==0)&&true)))
abbrev mosaic_Pixel.e0 (x:mosaic_Pixel):Bool:=(((x.Value_.Lo:Int)==0)&&(((x.Value_.Hi:Int)==0)&&((x.Key.Name==ByteArray.empty)&&(((x.Key.Tilt:Int)==0)&&(((x.Key.Time:Int)==0)&&true)))))
abbrev mosaic_Clash.e0 (x:mosaic_Clash):Bool:=(((x.Pixel:Int)==0)&&((x.A.Name==ByteArray.empty)&&(((x.A.Tilt:Int)==0)&&(((x.A.Time:Int)==0)&&((x.B.Name==ByteArray.empty)&&(((x.B.Tilt:Int)==0)&&(((x.B.Time:Int)==0)&&true)))))))
abbrev Ta:Array Value:=#[.string ByteArray.empty,.int .i64 0,.int .i64 0,.int .i64 0,.int .i64 0,.int .i64 0,.int .i64 0,.int .i64 0,.int .i64 0,.int .i64 0]
abbrev z37:Array Value:=#[.int .i64 0,.int .i64 0,.int .i64 0,.int .i64 0,.int .i64 0,.int .i64 0,.int .i64 0,.slice none 0 0,.int .i64 0]
abbrev Qd:Array Value:=#[.string ByteArray.empty,.int .i64 0,.int .i64 0,.int .i64 0,.int .i64 0,.int .i64 0,.int .i64 0,.int .i64 0]
abbrev Pq:Array Value:=#[.int .i64 0,.int .i64 0,.int .i64 0,.int .i64 0,.int .i64 0,.slice none 0 0]
abbrev z32:Array Value:=#[.int .i64 0,.int .i64 0,.int .i64 0,.int .i64 0,.int .i64 0]
abbrev z66:Array Value:=#[.int .i64 0,.int .i64 0,.string ByteArray.empty,.int .i64 0,.int .i64 0]
abbrev z49:Array Value:=#[.string ByteArray.empty,.int .i64 0,.int .i64 0,.slice none 0 0]
def Rp47:Rel (List api_Span):=fun μ cs x=>∃(ad1:Option Addr) (cap2:Nat),cs=[.slice ad1 x.length cap2]∧ArrM μ 2 api_Span.cells ad1 cap2 x
theorem Rp47.mono:Rel.Mono Rp47:=by
  intro μ ν cs x hle h;obtain ⟨ad1,cap2,rfl,f0⟩:=h;exact ⟨ad1,cap2,rfl,f0.mono hle⟩
theorem Rp47.one:Rel.One 1 Rp47:=by
  intro μ cs x h;obtain ⟨ad1,cap2,rfl,f0⟩:=h
  all_goals rfl
def Rp155:Rel mosaic_used:=fun μ cs x=>∃(ad1:Option Addr) (cap2:Nat) (ad3:Option Addr) (cap4:Nat),cs=[.string x.Key.Name,.int .i64 x.Key.Tilt,.int .i64 x.Key.Time,.slice ad1 x.vals.length cap2,.slice ad3 x.bands.length cap4]∧ArrM μ 2 api_Span.cells ad1 cap2 x.vals∧ArrM μ 2 api_Span.cells ad3 cap4 x.bands
theorem Rp155.mono:Rel.Mono Rp155:=by
  intro μ ν cs x hle h;obtain ⟨ad1,cap2,ad3,cap4,rfl,f0,f1⟩:=h;exact ⟨ad1,cap2,ad3,cap4,rfl,f0.mono hle,f1.mono hle⟩
theorem Rp155.one:Rel.One 5 Rp155:=by
  intro μ cs x h;obtain ⟨ad1,cap2,ad3,cap4,rfl,f0,f1⟩:=h
  all_goals rfl
def Rp49:Rel mosaic_Message:=fun μ cs x=>∃(ad1:Option Addr) (cap2:Nat),cs=[.string x.Key.Name,.int .i64 x.Key.Tilt,.int .i64 x.Key.Time,.slice ad1 x.Vals.length cap2]∧ArrM μ 2 api_Span.cells ad1 cap2 x.Vals
theorem Rp49.mono:Rel.Mono Rp49:=by
  intro μ ν cs x hle h;obtain ⟨ad1,cap2,rfl,f0⟩:=h;exact ⟨ad1,cap2,rfl,f0.mono hle⟩
def Dn (p0:ByteArray):Bool:=Uh p0
def or3 (x y z:Int):Int:=if x≠0 then x else if y≠0 then y else z
def Da (x y:mosaic_Key):Int:=or3 (if x.Time<y.Time then -1 else if y.Time<x.Time then 1 else 0) (if Mp x.Name y.Name then -1 else if Ls x.Name y.Name then 1 else 0) (if x.Tilt<y.Tilt then -1 else if y.Tilt<x.Tilt then 1 else 0)
def Ca (l:List mosaic_Key):List mosaic_Key:=N6 Da l
def H8 (F:Nat) (p0:mosaic_Node):Option (List mosaic_Key):=if p0.kept.length≤1000000 then some (Ca (p0.kept.map (·.1))) else none
def Gs (F:Nat) (p0:List (List api_Span)) (p1:Int) (p2:List (List api_Span)):Option (List (List api_Span)):=if 0≤p1∧p1≤(p0.length:Int)∧p2.length=1∧p0.length≤1000000 then some (p0.take p1.toNat++p2++p0.drop p1.toNat) else none
def Fq (F:Nat):Option (List mosaic_Key):=some []
def Ey (F:Nat):Option (List mosaic_Key):=some []
def A4 (p0:Int) (p1:Int) (p2:Int):Bool :=
  bif (decide (p1≤p0)) then (decide (p0≤p2)) else false
def Bh (c2:Bool):Int :=
  bif c2 then (3) else (0)
def B4 (p0:api_Grid):Int :=
  bif (!(A4 p0.X (-1048576) 1048576)) then (Bh (!(A4 p0.X (-1048576) 1048576))) else (bif (!(A4 p0.Y (-1048576) 1048576)) then (Bh (!(A4 p0.Y (-1048576) 1048576))) else (bif (!(A4 p0.Size 1 10000)) then (Bh (!(A4 p0.Size 1 10000))) else (bif (!(A4 p0.Wide 1 64)) then (Bh (!(A4 p0.Wide 1 64))) else (Bh (!(A4 p0.High 1 64))))))
def Bp (p0:api_Span) (p1:Int) (p2:Int):Bool :=
  bif (bif (decide (p1≤p0.Lo)) then (decide (p0.Lo≤p0.Hi)) else false) then (decide (p0.Hi≤p2)) else false
def Bc (p0:Int) (p1:Int) (p2:Int):Bool :=
  bif (decide (p1≤p0)) then (decide (p0≤p2)) else false
def L8 (F:Nat) (p0:ByteArray):Option Bool :=
  (gd (((bif (!(sEq p0 (⟨#[]⟩:ByteArray))) then (decide (((p0.size:Nat):Int)≤12)) else false)==true&&true)) (So p0 (0:Int)) default).bind fun u1 =>
  (gd (((bif (bif (!(sEq p0 (⟨#[]⟩:ByteArray))) then (decide (((p0.size:Nat):Int)≤12)) else false) then (decide (u1≥97)) else false)==true&&true)) (So p0 (0:Int)) default).bind fun u2 =>
  some (bif (bif (bif (bif (!(sEq p0 (⟨#[]⟩:ByteArray))) then (decide (((p0.size:Nat):Int)≤12)) else false) then (decide (u1≥97)) else false) then (decide (u2≤122)) else false) then (!(Dn p0)) else false)
def Bq (c4:Bool):Option Int :=
  bif c4 then (some 3) else (some 0)
def C5 (p0:api_Site) (c3:Bool):Option Int :=
  bif c3 then (some 3) else (bif (!(A4 p0.Rose 1 90)) then (Bq (!(A4 p0.Rose 1 90))) else (bif (!(A4 p0.Gates 1 200)) then (Bq (!(A4 p0.Gates 1 200))) else (bif (!(A4 p0.Step 50 2000)) then (Bq (!(A4 p0.Step 50 2000))) else (Bq (!(A4 p0.Width 0 8))))))
def Df (F:Nat) (p0:api_Site):Option Int :=
  (L8 F p0.Name).bind fun y2 =>
  bif (!y2) then (some 10) else (bif (!(A4 p0.X (-1048576) 1048576)) then (C5 p0 (!(A4 p0.X (-1048576) 1048576))) else (bif (!(A4 p0.Y (-1048576) 1048576)) then (C5 p0 (!(A4 p0.Y (-1048576) 1048576))) else (C5 p0 (!(A4 p0.Z 0 20000)))))
def Fx (a0:(List (ByteArray×Bool))):Option Int :=
  some 0
def Fw (F:Nat) (p0:mosaic_Spec) (k2:((List (ByteArray×Bool))→Int→Option Int)) (a1:(List (ByteArray×Bool))) (a2:Int):Option Int :=
  bif (decide (a2<((p0.Radars.length:Nat):Int))) then ((Cs p0.Radars a2).bind fun a0 =>
  (Df F a0.Site).bind fun a3 =>
  bif (a3 != 0) then (some a3) else (bif ((lkM a1 a0.Site.Name).getD false) then (some 5) else (bif (!(Bp a0.Offset (-3600) 3600)) then (some 3) else ((ck (a2+1)).bind fun a4 =>
  k2 (upM a1 a0.Site.Name true) a4)))) else (Fx a1)
def E9 (F:Nat) (p0:mosaic_Spec):Nat→(List (ByteArray×Bool))→Int→Option Int
  | 0,_,_=>none
  | n+1,a0,a1=>Fw F p0 (E9 F p0 n) a0 a1
def Je (F:Nat) (p0:mosaic_Spec):Option Int :=
  bif ((B4 p0.Grid) != 0) then (some (B4 p0.Grid)) else (bif (bif (!(Bp p0.Earth 1000000 100000000)) then true else (!(Bc p0.Age 1 86400))) then (some 3) else (bif (((p0.Radars.length:Nat):Int)==0) then (some 18) else (bif (decide (((p0.Radars.length:Nat):Int)>32)) then (some 9) else (E9 F p0 F ([]:List (ByteArray×Bool)) 0))))
def B2 (F:Nat) (p0:(List mosaic_Radar)):Option (List mosaic_Radar) :=
  (apd 88 ([]:List mosaic_Radar) p0).bind fun l5 =>
  some l5
def Hh (p0:mosaic_Spec) (y7:(List mosaic_Radar)) (a0:(List (ByteArray×mosaic_Radar))):Option (Except Int (mosaic_Node×Int)) :=
  some (.ok ((mosaic_Node.mk (mosaic_Spec.mk p0.Grid p0.Earth y7 p0.Age) a0 0 ([]:List (mosaic_Key×(List (List api_Span)))) 0 ([]:List (mosaic_where×(List api_Span)))),0))
def Hg (p0:mosaic_Spec) (y7:(List mosaic_Radar)) (k2:((List (ByteArray×mosaic_Radar))→Int→Option (Except Int (mosaic_Node×Int)))) (a1:(List (ByteArray×mosaic_Radar))) (a0:Int):Option (Except Int (mosaic_Node×Int)) :=
  bif (decide (a0<((y7.length:Nat):Int))) then ((Cs y7 a0).bind fun a2 =>
  (ck (a0+1)).bind fun a3 =>
  k2 (upM a1 a2.Site.Name a2) a3) else (Hh p0 y7 a1)
def Fm (p0:mosaic_Spec) (y7:(List mosaic_Radar)):Nat→(List (ByteArray×mosaic_Radar))→Int→Option (Except Int (mosaic_Node×Int))
  | 0,_,_=>none
  | n+1,a0,a1=>Hg p0 y7 (Fm p0 y7 n) a0 a1
def Gk (F:Nat) (p0:mosaic_Spec):Option (Except Int (mosaic_Node×Int)) :=
  (Je F p0).bind fun y5 =>
  bif (y5 != 0) then (some (.error y5)) else ((B2 F p0.Radars).bind fun y7 =>
  Fm p0 y7 F ([]:List (ByteArray×mosaic_Radar)) 0)
def Be (F:Nat) (p0:mosaic_Node):Option Bool :=
  some false
def De:Option Int :=
  some 0
def Dd (p1:mosaic_Message) (k2:(Int→Option Int)) (a0:Int):Option Int :=
  bif (decide (a0<((p1.Vals.length:Nat):Int))) then ((Cs p1.Vals a0).bind fun a1 =>
  bif (!(Bp a1 0 1000000)) then (some 3) else ((ck (a0+1)).bind fun a2 =>
  k2 a2)) else (De)
def Bx (p1:mosaic_Message):Nat→Int→Option Int
  | 0,_=>none
  | n+1,a0=>Dd p1 (Bx p1 n) a0
def Eh (F:Nat) (p0:mosaic_Node) (p1:mosaic_Message):Option Int :=
  bif (!((lkM p0.radars p1.Key.Name).isSome)) then (some 4) else (bif (bif (!(Bc p1.Key.Tilt 0 256)) then true else (!(Bc p1.Key.Time 0 4294967296))) then (some 3) else ((ck (p0.spec.Grid.Wide*p0.spec.Grid.High)).bind fun a0 =>
  bif (((p1.Vals.length:Nat):Int) != a0) then (some 11) else (Bx p1 F 0)))
def He:Option Int :=
  some 0
def Hc (p0:(List Int)) (k2:(Int→Option Int)) (a0:Int):Option Int :=
  bif (decide (a0<((p0.length:Nat):Int))) then ((Cs p0 a0).bind fun a1 =>
  bif (a1 != 0) then (some a1) else ((ck (a0+1)).bind fun a2 =>
  k2 a2)) else (He)
def Fk (p0:(List Int)):Nat→Int→Option Int
  | 0,_=>none
  | n+1,a0=>Hc p0 (Fk p0 n) a0
def J8 (F:Nat) (p0:(List Int)):Option Int :=
  Fk p0 F 0
def Bg (p0:Int):Bool :=
  p0 != p0
def A8 (p0:Int) (p1:Int):Int :=
  bif (Bg p0) then (bif (Bg p1) then (0) else (-1)) else (bif (Bg p1) then (1) else (bif (decide (p0<p1)) then (-1) else (bif (decide (p0>p1)) then (1) else (0))))
def Fb (F:Nat) (p0:api_Span) (p1:api_Span):Option Int :=
  (J8 F ([(A8 p0.Lo p1.Lo),(A8 p0.Hi p1.Hi)])).bind fun y4 =>
  some y4
def Aq (p0:(List api_Span)) (p1:(List api_Span)):Option Int :=
  bif (decide (((p0.length:Nat):Int)<((p1.length:Nat):Int))) then (some (-1)) else (some 0)
def Ap (F:Nat) (p0:(List api_Span)) (p1:(List api_Span)) (k2:(Int→Option Int)) (a0:Int):Option Int :=
  bif (decide (a0<((p0.length:Nat):Int))) then ((Cs p0 a0).bind fun a2 =>
  bif (decide (a0≥((p1.length:Nat):Int))) then (some 1) else ((Cs p1 a0).bind fun a3 =>
  (Fb F a2 a3).bind fun a1 =>
  bif (a1 != 0) then (some a1) else ((ck (a0+1)).bind fun a4 =>
  k2 a4))) else (Aq p0 p1)
def Ad (F:Nat) (p0:(List api_Span)) (p1:(List api_Span)):Nat→Int→Option Int
  | 0,_=>none
  | n+1,a0=>Ap F p0 p1 (Ad F p0 p1 n) a0
def At (F:Nat) (p0:(List api_Span)) (p1:(List api_Span)):Option Int :=
  Ad F p0 p1 F 0
def Eu (F:Nat) (p0:(List api_Span)) (p1:(List api_Span)):Option Int :=
  (At F p0 p1).bind fun y8 =>
  some y8
def Aw (F:Nat) (p0:(List (List api_Span))) (p1:(List api_Span)) (a0:Int):Option (Int×Bool) :=
  bif (decide (a0<((p0.length:Nat):Int))) then ((Cs p0 a0).bind fun a1 =>
  (Eu F a1 p1).bind fun a2 =>
  some (a0,a2==0)) else (some (a0,false))
def Av (F:Nat) (p0:(List (List api_Span))) (p1:(List api_Span)) (k2:(Int→Int→Option (Int×Bool))) (a1:Int) (a0:Int):Option (Int×Bool) :=
  bif (decide (a0<a1)) then ((ck (a0+a1)).bind fun a4 =>
  (ck (Int.fdiv (IntKind.u64.wrap a4) 2)).bind fun a2 =>
  (Cs p0 a2).bind fun a3 =>
  (Eu F a3 p1).bind fun a6 =>
  bif (decide (a6<0)) then ((ck (a2+1)).bind fun a5 =>
  k2 a1 a5) else (k2 a2 a0)) else (Aw F p0 p1 a0)
def Al (F:Nat) (p0:(List (List api_Span))) (p1:(List api_Span)):Nat→Int→Int→Option (Int×Bool)
  | 0,_,_=>none
  | n+1,a0,a1=>Av F p0 p1 (Al F p0 p1 n) a0 a1
def Ay (F:Nat) (p0:(List (List api_Span))) (p1:(List api_Span)):Option (Int×Bool) :=
  Al F p0 p1 F ((p0.length:Nat):Int) 0
def D3 (F:Nat) (p0:mosaic_Node) (p1:mosaic_Message):Option (Int×Bool) :=
  (Ay F ((lkM p0.kept p1.Key).getD []) p1.Vals).bind fun a0 =>
  some (a0.1,a0.2)
def Ba (F:Nat) (p0:(List (List api_Span))):Option (List (List api_Span)) :=
  (apd 24 ([]:List (List api_Span)) p0).bind fun l7 =>
  some l7
def B7 (F:Nat) (p0:(List api_Span)):Option (List api_Span) :=
  (apd 16 ([]:List api_Span) p0).bind fun l5 =>
  some l5
def Fg (F:Nat) (p0:mosaic_Node) (p1:mosaic_Message):Option mosaic_Node :=
  (D3 F p0 p1).bind fun a1 =>
  (Ba F ((lkM p0.kept p1.Key).getD [])).bind fun a2 =>
  (B7 F p1.Vals).bind fun a3 =>
  (Gs F a2 a1.1 ([a3])).bind fun a4 =>
  (ck (p0.count+1)).bind fun a0 =>
  some (mosaic_Node.mk p0.spec p0.radars p0.horizon (upM p0.kept p1.Key a4) a0 p0.looks)
def Cx (F:Nat) (p0:mosaic_Node) (p1:mosaic_Message):Option (Bool×Int×mosaic_Node) :=
  (Be F p0).bind fun a1 =>
  bif a1 then (some (false,1,p0)) else ((Eh F p0 p1).bind fun a0 =>
  bif (a0 != 0) then (some (false,a0,p0)) else (bif (decide (p1.Key.Time<p0.horizon)) then (some (false,17,p0)) else ((D3 F p0 p1).bind fun a2 =>
  bif a2.2 then (some (false,0,p0)) else (bif (decide (p0.count≥256)) then (some (false,13,p0)) else ((Fg F p0 p1).bind fun a3 =>
  some (true,0,a3))))))
def Ec (F:Nat) (p0:mosaic_Node) (p1:Int):Option Int :=
  (Be F p0).bind fun a0 =>
  bif a0 then (some 1) else (bif (!(Bc p1 0 4294967296)) then (some 3) else (bif (decide (p1<p0.horizon)) then (some 17) else (some 0)))
def B5 (p0:ByteArray):Bool :=
  !(sEq p0 p0)
def B8 (p0:ByteArray) (p1:ByteArray):Int :=
  bif (B5 p0) then (bif (B5 p1) then (0) else (-1)) else (bif (B5 p1) then (1) else (bif (Mp p0 p1) then (-1) else (bif (Ls p0 p1) then (1) else (0))))
def Cr (F:Nat) (p0:Int):Option beam_slant :=
  (ck (p0*p0)).bind fun x2 =>
  (ck (262144-x2)).bind fun x3 =>
  (ck (1024*p0)).bind fun x4 =>
  (ck (p0*p0)).bind fun x5 =>
  (ck (262144+x5)).bind fun x6 =>
  some (beam_slant.mk x3 x4 x6)
def Fo (F:Nat) (p0:Int) (c0_:api_Site) (c1_:beam_slant):Option Int :=
  (ck (p0*c0_.Step)).bind fun x1 =>
  (ck (x1*c1_.c)).bind fun x2 =>
  (Mh x2 c1_.d).bind fun x3 =>
  some x3
def J7 (a0:Int):Option Int :=
  some a0
def J6 (F:Nat) (p0:api_Site) (p2:Int) (y2:beam_slant) (k2:(Int→Int→Option Int)) (a0:Int) (a2:Int):Option Int :=
  (ck (a2-a0)).bind fun a3 =>
  bif (decide (a3>1)) then ((ck (a0+a2)).bind fun a4 =>
  (Mh a4 2).bind fun a1 =>
  (Fo F a1 p0 y2).bind fun a6 =>
  (Fo F a1 p0 y2).bind fun a7 =>
  (ck (a6*a7)).bind fun a5 =>
  bif (decide (a5≤p2)) then (k2 a1 a2) else (k2 a0 a1)) else (J7 a0)
def Ga (F:Nat) (p0:api_Site) (p2:Int) (y2:beam_slant):Nat→Int→Int→Option Int
  | 0,_,_=>none
  | n+1,a0,a1=>J6 F p0 p2 y2 (Ga F p0 p2 y2 n) a0 a1
def Lb (F:Nat) (p0:api_Site) (p1:Int) (p2:Int):Option Int :=
  (Cr F p1).bind fun y2 =>
  (Fo F p0.Gates p0 y2).bind fun y4 =>
  (ck (y4*y4)).bind fun x5 =>
  bif (decide (p2≥x5)) then (some (-1)) else (Ga F p0 p2 y2 F 0 p0.Gates)
def Gh (F:Nat) (p0:Int) (p1:Int):Option beam_vector :=
  (Sb p1 p0).bind fun x2 =>
  (ck (2*p0)).bind fun x3 =>
  (ck (x3*x2)).bind fun x4 =>
  (ck (p0*p0)).bind fun x5 =>
  (ck (x2*x2)).bind fun x6 =>
  (ck (x5-x6)).bind fun x7 =>
  (ck (p0*p0)).bind fun x8 =>
  (ck (x2*x2)).bind fun x9 =>
  (ck (x8+x9)).bind fun a0 =>
  (Mh p1 p0).bind fun a1 =>
  bif (a1==0) then (some (beam_vector.mk x4 x7 a0)) else (bif (a1==1) then (bif (a1==0) then (some (beam_vector.mk x4 x7 a0)) else (some (beam_vector.mk x7 (IntKind.i64.wrap (0-x4)) a0))) else (bif (a1==0) then (some (beam_vector.mk x4 x7 a0)) else (bif (a1==2) then (bif (a1==0) then (some (beam_vector.mk x4 x7 a0)) else (some (beam_vector.mk (IntKind.i64.wrap (0-x4)) (IntKind.i64.wrap (0-x7)) a0))) else (bif (a1==0) then (some (beam_vector.mk x4 x7 a0)) else (bif (a1==3) then (bif (a1==0) then (some (beam_vector.mk x4 x7 a0)) else (some (beam_vector.mk (IntKind.i64.wrap (0-x7)) x4 a0))) else (bif (a1==0) then (some (beam_vector.mk x4 x7 a0)) else (none)))))))
def Et (F:Nat) (p0:beam_vector) (p1:Int) (p2:Int):Option Bool :=
  (ck (p0.y*p1)).bind fun x2 =>
  (ck (p0.x*p2)).bind fun x3 =>
  some (decide (x2≥x3))
def Jq (p0:Int) (a0:Int) (a1:Int):Option Int :=
  (ck (a0*p0)).bind fun a2 =>
  (ck (a2+a1)).bind fun a3 =>
  some a3
def Jn (F:Nat) (p0:Int) (a3:Int) (a4:Int) (a5:Int) (k3:(Int→Int→Option Int)) (a0:Int) (a1:Int):Option Int :=
  (ck (a1-a0)).bind fun a6 =>
  bif (decide (a6>1)) then ((ck (a0+a1)).bind fun a7 =>
  (Mh a7 2).bind fun a2 =>
  (Gh F p0 a2).bind fun a8 =>
  (Et F a8 a3 a4).bind fun a9 =>
  bif a9 then (k3 a2 a1) else (k3 a0 a2)) else (Jq p0 a5 a0)
def H3 (F:Nat) (p0:Int) (a0:Int) (a1:Int) (a2:Int):Nat→Int→Int→Option Int
  | 0,_,_=>none
  | n+1,a3,a4=>Jn F p0 a0 a1 a2 (H3 F p0 a0 a1 a2 n) a3 a4
def Jp (F:Nat) (p0:Int) (a0:Int) (a1:Int) (a2:Int):Option Int :=
  H3 F p0 a0 a1 a2 F 0 p0
def Jo (F:Nat) (p0:Int) (k4:(Int→Int→Int→Option Int)) (a0:Int) (a1:Int) (a2:Int):Option Int :=
  bif (bif (decide (a0<0)) then true else (decide (a1≤0))) then ((ck (a2+1)).bind fun a3 =>
  k4 (IntKind.i64.wrap (0-a1)) a0 a3) else (Jp F p0 a0 a1 a2)
def H4 (F:Nat) (p0:Int):Nat→Int→Int→Int→Option Int
  | 0,_,_,_=>none
  | n+1,a0,a1,a2=>Jo F p0 (H4 F p0 n) a0 a1 a2
def Lz (F:Nat) (p0:Int) (p1:Int) (p2:Int):Option Int :=
  H4 F p0 F p1 p2 0
def La (F:Nat) (p0:api_Site) (p1:Int) (p2:Int) (p3:Int):Option (Int×Int×Bool) :=
  (ck (p2-p0.X)).bind fun x2 =>
  (ck (p3-p0.Y)).bind fun x3 =>
  bif (bif (x2==0) then (x3==0) else false) then (some (0,0,true)) else ((ck (x2*x2)).bind fun x4 =>
  (ck (x3*x3)).bind fun x5 =>
  (ck (x4+x5)).bind fun x6 =>
  (Lb F p0 p1 x6).bind fun y7 =>
  bif (decide (y7<0)) then (some (0,0,false)) else ((Lz F p0.Rose x2 x3).bind fun y8 =>
  some (y8,y7,true)))
def J3 (a0:(List Int)):Option ((List Int)×Int) :=
  some (a0,0)
def J4 (a1:Int) (k2:((List Int)→Int→Option ((List Int)×Int))) (a0:(List Int)):Option ((List Int)×Int) :=
  (ck (a1+1)).bind fun a2 =>
  k2 a0 a2
def G7 (a0:(List Int)) (a2:Int) (k4:((List Int)→Int→Option ((List Int)×Int))) (a3:Int):Option ((List Int)×Int) :=
  (apd 8 a0 ([a3])).bind fun a1 =>
  (ck (a2+1)).bind fun a4 =>
  k4 a1 a4
def J2 (F:Nat) (p0:api_Site) (p1:Int) (p2:api_Grid) (a3:Int) (k2:((List Int)→Int→Option ((List Int)×Int))) (k4:((List Int)→Int→Option ((List Int)×Int))) (a1:(List Int)) (a0:Int):Option ((List Int)×Int) :=
  bif (decide (a0<p2.Wide)) then ((ck (a0*p2.Size)).bind fun a4 =>
  (ck (p2.X+a4)).bind fun a5 =>
  (Mh p2.Size 2).bind fun a6 =>
  (ck (a5+a6)).bind fun a7 =>
  (ck (a3*p2.Size)).bind fun a8 =>
  (ck (p2.Y+a8)).bind fun a9 =>
  (Mh p2.Size 2).bind fun aA =>
  (ck (a9+aA)).bind fun aB =>
  (La F p0 p1 a7 aB).bind fun a2 =>
  bif a2.2.2 then ((ck (a2.1*p0.Gates)).bind fun aC =>
  (ck (aC+a2.2.1)).bind fun aD =>
  G7 a1 a0 k4 aD) else (G7 a1 a0 k4 (-1))) else (J4 a3 k2 a1)
def G9 (F:Nat) (p0:api_Site) (p1:Int) (p2:api_Grid) (a0:Int) (k2:((List Int)→Int→Option ((List Int)×Int))):Nat→(List Int)→Int→Option ((List Int)×Int)
  | 0,_,_=>none
  | n+1,a1,a2=>J2 F p0 p1 p2 a0 k2 (G9 F p0 p1 p2 a0 k2 n) a1 a2
def J1 (F:Nat) (p0:api_Site) (p1:Int) (p2:api_Grid) (k2:((List Int)→Int→Option ((List Int)×Int))) (a0:(List Int)) (a1:Int):Option ((List Int)×Int) :=
  bif (decide (a1<p2.High)) then (G9 F p0 p1 p2 a1 k2 F a0 0) else (J3 a0)
def G8 (F:Nat) (p0:api_Site) (p1:Int) (p2:api_Grid):Nat→(List Int)→Int→Option ((List Int)×Int)
  | 0,_,_=>none
  | n+1,a0,a1=>J1 F p0 p1 p2 (G8 F p0 p1 p2 n) a0 a1
def L9 (F:Nat) (p0:api_Site) (p1:Int) (p2:api_Grid):Option ((List Int)×Int) :=
  (Df F p0).bind fun y3 =>
  bif (y3 != 0) then (some (([]:(List Int)),y3)) else (bif ((B4 p2) != 0) then (some (([]:(List Int)),(B4 p2))) else (bif (!(A4 p1 0 256)) then (some (([]:(List Int)),3)) else ((ck (p2.Wide*p2.High)).bind fun x4 =>
  (mk0 8 x4).bind fun c6 =>
  G8 F p0 p1 p2 F ([]:List Int) 0)))
def Dg (p0:api_Span):Bool :=
  bif (bif (decide (1000000≤p0.Lo)) then (decide (p0.Lo≤p0.Hi)) else false) then (decide (p0.Hi≤100000000)) else false
def Hm (F:Nat) (p0:Int) (p1:Int):Option Int :=
  (Mh p0 p1).bind fun x1 =>
  (ck (x1*p1)).bind fun x2 =>
  bif (decide (x2>p0)) then ((ck (x1-1)).bind fun x3 =>
  some x3) else (some x1)
def Kw (F:Nat) (p0:Int) (p1:Int):Option Int :=
  (Mh p0 p1).bind fun x1 =>
  (ck (x1*p1)).bind fun x2 =>
  bif (decide (x2<p0)) then ((ck (x1+1)).bind fun x3 =>
  some x3) else (some x1)
def F2 (F:Nat) (p0:api_Site) (p1:Int) (p2:Int):Option Int :=
  (Cr F p1).bind fun y2 =>
  (ck (2*p2)).bind fun x4 =>
  (ck (x4+1)).bind fun x5 =>
  (ck (x5*p0.Step)).bind fun x6 =>
  (ck (x6*y2.c)).bind fun x7 =>
  (ck (2*y2.d)).bind fun x8 =>
  (Hm F x7 x8).bind fun y9 =>
  some y9
def Fu (F:Nat) (p0:api_Site) (p1:Int) (p2:Int) (p3:Int):Option Int :=
  (Cr F p1).bind fun y2 =>
  (F2 F p0 p1 p2).bind fun y5 =>
  (ck (2*p2)).bind fun x6 =>
  (ck (x6+1)).bind fun x7 =>
  (ck (x7*p0.Step)).bind fun x8 =>
  (ck (x8*y2.s)).bind fun x9 =>
  (ck (2*y2.d)).bind fun a0 =>
  (ck (y5*y5)).bind fun a1 =>
  (ck (2*p3)).bind fun a2 =>
  (Hm F x9 a0).bind fun a5 =>
  (ck (p0.Z+a5)).bind fun a3 =>
  (Hm F a1 a2).bind fun a6 =>
  (ck (a3+a6)).bind fun a4 =>
  some a4
def F3 (F:Nat) (p0:api_Site) (p1:Int) (p2:Int):Option Int :=
  (Cr F p1).bind fun y2 =>
  (ck (2*p2)).bind fun x4 =>
  (ck (x4+1)).bind fun x5 =>
  (ck (x5*p0.Step)).bind fun x6 =>
  (ck (x6*y2.c)).bind fun x7 =>
  (ck (2*y2.d)).bind fun x8 =>
  (Kw F x7 x8).bind fun y9 =>
  some y9
def Fv (F:Nat) (p0:api_Site) (p1:Int) (p2:Int) (p3:Int):Option Int :=
  (Cr F p1).bind fun y2 =>
  (F3 F p0 p1 p2).bind fun y5 =>
  (ck (2*p2)).bind fun x6 =>
  (ck (x6+1)).bind fun x7 =>
  (ck (x7*p0.Step)).bind fun x8 =>
  (ck (x8*y2.s)).bind fun x9 =>
  (ck (2*y2.d)).bind fun a0 =>
  (ck (y5*y5)).bind fun a1 =>
  (ck (2*p3)).bind fun a2 =>
  (Kw F x9 a0).bind fun a5 =>
  (ck (p0.Z+a5)).bind fun a3 =>
  (Kw F a1 a2).bind fun a6 =>
  (ck (a3+a6)).bind fun a4 =>
  some a4
def L7 (F:Nat) (p0:api_Site) (p1:Int) (p2:api_Span) (p3:Int):Option (api_Span×Int) :=
  (Df F p0).bind fun y4 =>
  bif (y4 != 0) then (some ((api_Span.mk 0 0),y4)) else ((gd (((bif (!(A4 p1 0 256)) then true else (!(Dg p2)))==false&&true)) (ck (p0.Gates-1)) 0).bind fun x5 =>
  bif (bif (bif (!(A4 p1 0 256)) then true else (!(Dg p2))) then true else (!(A4 p3 0 x5))) then (some ((api_Span.mk 0 0),3)) else ((ck (p1-p0.Width)).bind fun x6 =>
  (ck (p1+p0.Width)).bind fun x7 =>
  (Fu F p0 x6 p3 p2.Hi).bind fun y9 =>
  (Fv F p0 x7 p3 p2.Lo).bind fun a0 =>
  some ((api_Span.mk y9 a0),0)))
def Dl (p0:mosaic_Node) (p1:mosaic_Key) (a0:(List api_Span)):Option ((List api_Span)×(List (mosaic_where×(List api_Span)))) :=
  some (a0,(upM p0.looks (mosaic_where.mk p1.Name p1.Tilt) a0))
def C8 (a0:(List api_Span)) (a2:Int) (k2:((List api_Span)→Int→Option ((List api_Span)×(List (mosaic_where×(List api_Span)))))) (a3:Int) (a4:Int):Option ((List api_Span)×(List (mosaic_where×(List api_Span)))) :=
  (apd 16 a0 ([(api_Span.mk a3 a4)])).bind fun a1 =>
  (ck (a2+1)).bind fun a5 =>
  k2 a1 a5
def Dk (F:Nat) (p0:mosaic_Node) (p1:mosaic_Key) (a4:((List Int)×Int)) (k2:((List api_Span)→Int→Option ((List api_Span)×(List (mosaic_where×(List api_Span)))))) (a1:(List api_Span)) (a0:Int):Option ((List api_Span)×(List (mosaic_where×(List api_Span)))) :=
  bif (decide (a0<((a4.1.length:Nat):Int))) then ((Cs a4.1 a0).bind fun a2 =>
  bif (decide (a2≥0)) then ((Sb a2 ((((lkM p0.radars p1.Name).getD (mosaic_Radar.mk (api_Site.mk ByteArray.empty 0 0 0 0 0 0 0) (api_Span.mk 0 0))).Site).Gates)).bind fun a5 =>
  (L7 F (api_Site.mk ((((lkM p0.radars p1.Name).getD (mosaic_Radar.mk (api_Site.mk ByteArray.empty 0 0 0 0 0 0 0) (api_Span.mk 0 0))).Site).Name) ((((lkM p0.radars p1.Name).getD (mosaic_Radar.mk (api_Site.mk ByteArray.empty 0 0 0 0 0 0 0) (api_Span.mk 0 0))).Site).X) ((((lkM p0.radars p1.Name).getD (mosaic_Radar.mk (api_Site.mk ByteArray.empty 0 0 0 0 0 0 0) (api_Span.mk 0 0))).Site).Y) ((((lkM p0.radars p1.Name).getD (mosaic_Radar.mk (api_Site.mk ByteArray.empty 0 0 0 0 0 0 0) (api_Span.mk 0 0))).Site).Z) ((((lkM p0.radars p1.Name).getD (mosaic_Radar.mk (api_Site.mk ByteArray.empty 0 0 0 0 0 0 0) (api_Span.mk 0 0))).Site).Rose) ((((lkM p0.radars p1.Name).getD (mosaic_Radar.mk (api_Site.mk ByteArray.empty 0 0 0 0 0 0 0) (api_Span.mk 0 0))).Site).Gates) ((((lkM p0.radars p1.Name).getD (mosaic_Radar.mk (api_Site.mk ByteArray.empty 0 0 0 0 0 0 0) (api_Span.mk 0 0))).Site).Step) ((((lkM p0.radars p1.Name).getD (mosaic_Radar.mk (api_Site.mk ByteArray.empty 0 0 0 0 0 0 0) (api_Span.mk 0 0))).Site).Width)) p1.Tilt p0.spec.Earth a5).bind fun a3 =>
  C8 a1 a0 k2 a3.1.Lo a3.1.Hi) else (C8 a1 a0 k2 1 0)) else (Dl p0 p1 a1)
def C9 (F:Nat) (p0:mosaic_Node) (p1:mosaic_Key) (a0:((List Int)×Int)):Nat→(List api_Span)→Int→Option ((List api_Span)×(List (mosaic_where×(List api_Span))))
  | 0,_,_=>none
  | n+1,a1,a2=>Dk F p0 p1 a0 (C9 F p0 p1 a0 n) a1 a2
def Ew (F:Nat) (p0:mosaic_Node) (p1:mosaic_Key):Option ((List api_Span)×(List (mosaic_where×(List api_Span)))) :=
  bif ((lkM p0.looks (mosaic_where.mk p1.Name p1.Tilt)).isSome) then (some (((lkM p0.looks (mosaic_where.mk p1.Name p1.Tilt)).getD []),p0.looks)) else ((L9 F (api_Site.mk ((((lkM p0.radars p1.Name).getD (mosaic_Radar.mk (api_Site.mk ByteArray.empty 0 0 0 0 0 0 0) (api_Span.mk 0 0))).Site).Name) ((((lkM p0.radars p1.Name).getD (mosaic_Radar.mk (api_Site.mk ByteArray.empty 0 0 0 0 0 0 0) (api_Span.mk 0 0))).Site).X) ((((lkM p0.radars p1.Name).getD (mosaic_Radar.mk (api_Site.mk ByteArray.empty 0 0 0 0 0 0 0) (api_Span.mk 0 0))).Site).Y) ((((lkM p0.radars p1.Name).getD (mosaic_Radar.mk (api_Site.mk ByteArray.empty 0 0 0 0 0 0 0) (api_Span.mk 0 0))).Site).Z) ((((lkM p0.radars p1.Name).getD (mosaic_Radar.mk (api_Site.mk ByteArray.empty 0 0 0 0 0 0 0) (api_Span.mk 0 0))).Site).Rose) ((((lkM p0.radars p1.Name).getD (mosaic_Radar.mk (api_Site.mk ByteArray.empty 0 0 0 0 0 0 0) (api_Span.mk 0 0))).Site).Gates) ((((lkM p0.radars p1.Name).getD (mosaic_Radar.mk (api_Site.mk ByteArray.empty 0 0 0 0 0 0 0) (api_Span.mk 0 0))).Site).Step) ((((lkM p0.radars p1.Name).getD (mosaic_Radar.mk (api_Site.mk ByteArray.empty 0 0 0 0 0 0 0) (api_Span.mk 0 0))).Site).Width)) p1.Tilt p0.spec.Grid).bind fun a0 =>
  C9 F p0 p1 a0 F ([]) 0)
def Eg (a0:(List (mosaic_where×(List api_Span)))) (a1:(List mosaic_used)):Option ((List mosaic_used)×(List (mosaic_where×(List api_Span)))) :=
  some (a1,a0)
def Cz (a2:Int) (k3:((List (mosaic_where×(List api_Span)))→Int→(List mosaic_used)→Option ((List mosaic_used)×(List (mosaic_where×(List api_Span)))))) (a0:(List (mosaic_where×(List api_Span)))) (a1:(List mosaic_used)):Option ((List mosaic_used)×(List (mosaic_where×(List api_Span)))) :=
  (ck (a2+1)).bind fun a3 =>
  k3 a0 a3 a1
def Ed (F:Nat) (p0:mosaic_Node) (a4:(List (mosaic_where×mosaic_Key))) (a5:(List mosaic_Key)) (k3:((List (mosaic_where×(List api_Span)))→Int→(List mosaic_used)→Option ((List mosaic_used)×(List (mosaic_where×(List api_Span)))))) (a2:(List (mosaic_where×(List api_Span)))) (a1:Int) (a3:(List mosaic_used)):Option ((List mosaic_used)×(List (mosaic_where×(List api_Span)))) :=
  bif (decide (a1<((a5.length:Nat):Int))) then ((Cs a5 a1).bind fun a0 =>
  bif (((((lkM a4 (mosaic_where.mk a0.Name a0.Tilt)).getD (mosaic_Key.mk ByteArray.empty 0 0)).Name)==a0.Name)&&(((((lkM a4 (mosaic_where.mk a0.Name a0.Tilt)).getD (mosaic_Key.mk ByteArray.empty 0 0)).Tilt:Int)==a0.Tilt)&&(((((lkM a4 (mosaic_where.mk a0.Name a0.Tilt)).getD (mosaic_Key.mk ByteArray.empty 0 0)).Time:Int)==a0.Time)&&true))) then ((Cs ((lkM p0.kept a0).getD []) 0).bind fun a8 =>
  (Ew F (mosaic_Node.mk p0.spec p0.radars p0.horizon p0.kept p0.count a2) a0).bind fun a6 =>
  (apd 80 a3 ([(mosaic_used.mk a0 a8 a6.1)])).bind fun a7 =>
  Cz a1 k3 a6.2 a7) else (Cz a1 k3 a2 a3)) else (Eg a2 a3)
def D1 (F:Nat) (p0:mosaic_Node) (a0:(List (mosaic_where×mosaic_Key))) (a1:(List mosaic_Key)):Nat→(List (mosaic_where×(List api_Span)))→Int→(List mosaic_used)→Option ((List mosaic_used)×(List (mosaic_where×(List api_Span))))
  | 0,_,_,_=>none
  | n+1,a2,a4,a3=>Ed F p0 a0 a1 (D1 F p0 a0 a1 n) a2 a4 a3
def Ef (F:Nat) (p0:mosaic_Node) (a0:(List (mosaic_where×mosaic_Key))):Option ((List mosaic_used)×(List (mosaic_where×(List api_Span)))) :=
  (H8 F p0).bind fun a1 =>
  D1 F p0 a0 a1 F p0.looks 0 ([])
def D0 (a1:Int) (k5:((List (mosaic_where×mosaic_Key))→Int→Option ((List mosaic_used)×(List (mosaic_where×(List api_Span)))))) (a0:(List (mosaic_where×mosaic_Key))):Option ((List mosaic_used)×(List (mosaic_where×(List api_Span)))) :=
  (ck (a1+1)).bind fun a2 =>
  k5 a0 a2
def Ee (F:Nat) (p0:mosaic_Node) (p1:Int) (a4:(List mosaic_Key)) (k5:((List (mosaic_where×mosaic_Key))→Int→Option ((List mosaic_used)×(List (mosaic_where×(List api_Span)))))) (a2:(List (mosaic_where×mosaic_Key))) (a1:Int):Option ((List mosaic_used)×(List (mosaic_where×(List api_Span)))) :=
  bif (decide (a1<((a4.length:Nat):Int))) then ((Cs a4 a1).bind fun a0 =>
  (gd (((((((lkM p0.kept a0).getD []).length:Nat):Int)==1)==true&&true)) (ck (a0.Time+((((lkM p0.radars a0.Name).getD (mosaic_Radar.mk (api_Site.mk ByteArray.empty 0 0 0 0 0 0 0) (api_Span.mk 0 0))).Offset).Hi))) 0).bind fun a3 =>
  (gd (((bif (((((lkM p0.kept a0).getD []).length:Nat):Int)==1) then (decide (a3≤p1)) else false)==true&&true)) (ck (p1-a0.Time)) 0).bind fun a5 =>
  (gd (((bif (((((lkM p0.kept a0).getD []).length:Nat):Int)==1) then (decide (a3≤p1)) else false)==true&&true)) (ck (a5-((((lkM p0.radars a0.Name).getD (mosaic_Radar.mk (api_Site.mk ByteArray.empty 0 0 0 0 0 0 0) (api_Span.mk 0 0))).Offset).Lo))) 0).bind fun a6 =>
  bif (bif (bif (((((lkM p0.kept a0).getD []).length:Nat):Int)==1) then (decide (a3≤p1)) else false) then (decide (a6≤p0.spec.Age)) else false) then (D0 a1 k5 (upM a2 (mosaic_where.mk a0.Name a0.Tilt) a0)) else (D0 a1 k5 a2)) else (Ef F p0 a2)
def D2 (F:Nat) (p0:mosaic_Node) (p1:Int) (a0:(List mosaic_Key)):Nat→(List (mosaic_where×mosaic_Key))→Int→Option ((List mosaic_used)×(List (mosaic_where×(List api_Span))))
  | 0,_,_=>none
  | n+1,a1,a2=>Ee F p0 p1 a0 (D2 F p0 p1 a0 n) a1 a2
def G4 (F:Nat) (p0:mosaic_Node) (p1:Int):Option ((List mosaic_used)×(List (mosaic_where×(List api_Span)))) :=
  (H8 F p0).bind fun a0 =>
  D2 F p0 p1 a0 F ([]:List (mosaic_where×mosaic_Key)) 0
def Ha (p0:api_Span):Bool :=
  decide (p0.Lo≤p0.Hi)
def Dy (a1:((List mosaic_used)×(List (mosaic_where×(List api_Span))))) (a0:(List mosaic_Pixel)):Option ((List mosaic_Pixel)×Int×(List (mosaic_where×(List api_Span)))) :=
  some (a0,0,a1.2)
def Dz (a1:Int) (k2:(Int→(List mosaic_Pixel)→Option ((List mosaic_Pixel)×Int×(List (mosaic_where×(List api_Span)))))) (a0:(List mosaic_Pixel)):Option ((List mosaic_Pixel)×Int×(List (mosaic_where×(List api_Span)))) :=
  (ck (a1+1)).bind fun a2 =>
  k2 a2 a0
def Ch (a3:Int) (a0:(List mosaic_Pixel)) (k2:(Int→(List mosaic_Pixel)→Option ((List mosaic_Pixel)×Int×(List (mosaic_where×(List api_Span)))))) (a4:Int) (a5:Int) (a2:ByteArray) (a6:Int) (a7:Int):Option ((List mosaic_Pixel)×Int×(List (mosaic_where×(List api_Span)))) :=
  (apd 48 a0 ([(mosaic_Pixel.mk (api_Span.mk a4 a5) (mosaic_Key.mk a2 a6 a7))])).bind fun a1 =>
  Dz a3 k2 a1
def E0 (a5:((List mosaic_used)×(List (mosaic_where×(List api_Span))))) (a1:Int) (a2:(List mosaic_Pixel)) (k2:(Int→(List mosaic_Pixel)→Option ((List mosaic_Pixel)×Int×(List (mosaic_where×(List api_Span)))))) (a4:Int):Option ((List mosaic_Pixel)×Int×(List (mosaic_where×(List api_Span)))) :=
  bif (decide (a4<0)) then (Ch a1 a2 k2 0 1000000 ByteArray.empty 0 0) else ((Cs a5.1 a4).bind fun a0 =>
  (Cs a0.vals a1).bind fun a3 =>
  Ch a1 a2 k2 a3.Lo a3.Hi a0.Key.Name a0.Key.Tilt a0.Key.Time)
def Bl (a0:Int) (k6:(Int→Int→Option ((List mosaic_Pixel)×Int×(List (mosaic_where×(List api_Span)))))) (a1:Int):Option ((List mosaic_Pixel)×Int×(List (mosaic_where×(List api_Span)))) :=
  (ck (a0+1)).bind fun a2 =>
  k6 a1 a2
def Dx (F:Nat) (a5:((List mosaic_used)×(List (mosaic_where×(List api_Span))))) (a2:Int) (a6:(List mosaic_Pixel)) (k2:(Int→(List mosaic_Pixel)→Option ((List mosaic_Pixel)×Int×(List (mosaic_where×(List api_Span)))))) (k6:(Int→Int→Option ((List mosaic_Pixel)×Int×(List (mosaic_where×(List api_Span)))))) (a4:Int) (a0:Int):Option ((List mosaic_Pixel)×Int×(List (mosaic_where×(List api_Span)))) :=
  bif (decide (a0<((a5.1.length:Nat):Int))) then ((Cs a5.1 a0).bind fun a1 =>
  (Cs a1.bands a2).bind fun a7 =>
  bif (!(Ha a7)) then (Bl a0 k6 a4) else (bif (decide (a4<0)) then (Bl a0 k6 a0) else ((Cs a5.1 a4).bind fun a3 =>
  (Cs a1.bands a2).bind fun a8 =>
  (Cs a3.bands a2).bind fun a9 =>
  (Cs a1.bands a2).bind fun aA =>
  (Cs a3.bands a2).bind fun aB =>
  (J8 F ([(A8 a8.Hi a9.Hi),(A8 aA.Lo aB.Lo),(A8 a3.Key.Time a1.Key.Time),(B8 a1.Key.Name a3.Key.Name),(A8 a1.Key.Tilt a3.Key.Tilt)])).bind fun aC =>
  bif (decide (aC<0)) then (Bl a0 k6 a0) else (Bl a0 k6 a4)))) else (E0 a5 a2 a6 k2 a4)
def Cj (F:Nat) (a2:((List mosaic_used)×(List (mosaic_where×(List api_Span))))) (a1:Int) (a0:(List mosaic_Pixel)) (k2:(Int→(List mosaic_Pixel)→Option ((List mosaic_Pixel)×Int×(List (mosaic_where×(List api_Span)))))):Nat→Int→Int→Option ((List mosaic_Pixel)×Int×(List (mosaic_where×(List api_Span))))
  | 0,_,_=>none
  | n+1,a3,a4=>Dx F a2 a1 a0 k2 (Cj F a2 a1 a0 k2 n) a3 a4
def Dw (F:Nat) (a2:((List mosaic_used)×(List (mosaic_where×(List api_Span))))) (a3:Int) (k2:(Int→(List mosaic_Pixel)→Option ((List mosaic_Pixel)×Int×(List (mosaic_where×(List api_Span)))))) (a1:Int) (a0:(List mosaic_Pixel)):Option ((List mosaic_Pixel)×Int×(List (mosaic_where×(List api_Span)))) :=
  bif (decide (a1<a3)) then (Cj F a2 a1 a0 k2 F (-1) 0) else (Dy a2 a0)
def Ci (F:Nat) (a1:((List mosaic_used)×(List (mosaic_where×(List api_Span))))) (a0:Int):Nat→Int→(List mosaic_Pixel)→Option ((List mosaic_Pixel)×Int×(List (mosaic_where×(List api_Span))))
  | 0,_,_=>none
  | n+1,a3,a2=>Dw F a1 a0 (Ci F a1 a0 n) a3 a2
def Ff (F:Nat) (p0:mosaic_Node) (p1:Int):Option ((List mosaic_Pixel)×Int×(List (mosaic_where×(List api_Span)))) :=
  (Ec F p0 p1).bind fun a0 =>
  bif (a0 != 0) then (some (([]:(List mosaic_Pixel)),a0,p0.looks)) else ((G4 F p0 p1).bind fun a2 =>
  (ck (p0.spec.Grid.Wide*p0.spec.Grid.High)).bind fun a1 =>
  Ci F a2 a1 F 0 ([]))
def A5 (p0:Int):api_Span :=
  (api_Span.mk p0 p0)
def law11_S:mosaic_Spec :=
  (mosaic_Spec.mk (api_Grid.mk (-2000) (-1000) 1000 4 2) (A5 8000000) ([(mosaic_Radar.mk (api_Site.mk (⟨#[97]⟩:ByteArray) (-1500) (-500) 100 1 3 1000 0) (api_Span.mk 0 0)),(mosaic_Radar.mk (api_Site.mk (⟨#[98]⟩:ByteArray) 1500 (-500) 100 1 3 1000 0) (api_Span.mk 5 10))]) 600)
def Fa (p0:ByteArray) (p1:Int) (a0:(List api_Span)):Option mosaic_Message :=
  some (mosaic_Message.mk (mosaic_Key.mk p0 0 p1) a0)
def F9 (p0:ByteArray) (p1:Int) (p2:Int) (k2:((List api_Span)→Int→Option mosaic_Message)) (a0:(List api_Span)) (a1:Int):Option mosaic_Message :=
  bif (decide (a1<8)) then ((apd 16 a0 ([(A5 p2)])).bind fun a2 =>
  (ck (a1+1)).bind fun a3 =>
  k2 a2 a3) else (Fa p0 p1 a0)
def Dp (p0:ByteArray) (p1:Int) (p2:Int):Nat→(List api_Span)→Int→Option mosaic_Message
  | 0,_,_=>none
  | n+1,a0,a1=>F9 p0 p1 p2 (Dp p0 p1 p2 n) a0 a1
def D9 (F:Nat) (p0:ByteArray) (p1:Int) (p2:Int):Option mosaic_Message :=
  Dp p0 p1 p2 F ([]) 0
def H7 (F:Nat):Option Bool :=
  (Gk F (mosaic_Spec.mk (api_Grid.mk law11_S.Grid.X law11_S.Grid.Y law11_S.Grid.Size law11_S.Grid.Wide law11_S.Grid.High) (api_Span.mk law11_S.Earth.Lo law11_S.Earth.Hi) law11_S.Radars law11_S.Age)).bind fun y7 =>
  exc y7 (fun a7=>bif (a7 != 0) then (some false) else (none)) (fun a2=>bif (a2.2 != 0) then (some false) else ((D9 F (⟨#[97]⟩:ByteArray) 100 5).bind fun a8 =>
  (Cx F (mosaic_Node.mk (mosaic_Spec.mk (api_Grid.mk a2.1.spec.Grid.X a2.1.spec.Grid.Y a2.1.spec.Grid.Size a2.1.spec.Grid.Wide a2.1.spec.Grid.High) (api_Span.mk a2.1.spec.Earth.Lo a2.1.spec.Earth.Hi) a2.1.spec.Radars a2.1.spec.Age) a2.1.radars a2.1.horizon a2.1.kept a2.1.count a2.1.looks) a8).bind fun a0 =>
  (D9 F (⟨#[98]⟩:ByteArray) 100 7).bind fun a9 =>
  (Cx F (mosaic_Node.mk (mosaic_Spec.mk (api_Grid.mk a0.2.2.spec.Grid.X a0.2.2.spec.Grid.Y a0.2.2.spec.Grid.Size a0.2.2.spec.Grid.Wide a0.2.2.spec.Grid.High) (api_Span.mk a0.2.2.spec.Earth.Lo a0.2.2.spec.Earth.Hi) a0.2.2.spec.Radars a0.2.2.spec.Age) a0.2.2.radars a0.2.2.horizon a0.2.2.kept a0.2.2.count a0.2.2.looks) a9).bind fun a1 =>
  (Ff F (mosaic_Node.mk (mosaic_Spec.mk (api_Grid.mk a1.2.2.spec.Grid.X a1.2.2.spec.Grid.Y a1.2.2.spec.Grid.Size a1.2.2.spec.Grid.Wide a1.2.2.spec.Grid.High) (api_Span.mk a1.2.2.spec.Earth.Lo a1.2.2.spec.Earth.Hi) a1.2.2.spec.Radars a1.2.2.spec.Age) a1.2.2.radars a1.2.2.horizon a1.2.2.kept a1.2.2.count a1.2.2.looks) 110).bind fun a3 =>
  (gd (((bif (bif (bif (bif (bif a0.1 then a1.1 else false) then (a0.2.1==0) else false) then (a1.2.1==0) else false) then (a3.2.1==0) else false) then (((a3.1.length:Nat):Int)==8) else false)==true&&true)) (Cs a3.1 0) default).bind fun a4 =>
  (gd (((bif (bif (bif (bif (bif (bif a0.1 then a1.1 else false) then (a0.2.1==0) else false) then (a1.2.1==0) else false) then (a3.2.1==0) else false) then (((a3.1.length:Nat):Int)==8) else false) then (((a4.Value_.Lo:Int)==(A5 5).Lo)&&(((a4.Value_.Hi:Int)==(A5 5).Hi)&&true)) else false)==true&&true)) (Cs a3.1 2) default).bind fun a5 =>
  (gd (((bif (bif (bif (bif (bif (bif (bif a0.1 then a1.1 else false) then (a0.2.1==0) else false) then (a1.2.1==0) else false) then (a3.2.1==0) else false) then (((a3.1.length:Nat):Int)==8) else false) then (((a4.Value_.Lo:Int)==(A5 5).Lo)&&(((a4.Value_.Hi:Int)==(A5 5).Hi)&&true)) else false) then ((a5.Key.Name==(⟨#[97]⟩:ByteArray))&&(((a5.Key.Tilt:Int)==0)&&(((a5.Key.Time:Int)==100)&&true))) else false)==true&&true)) (Cs a3.1 3) default).bind fun a6 =>
  some (bif (bif (bif (bif (bif (bif (bif (bif a0.1 then a1.1 else false) then (a0.2.1==0) else false) then (a1.2.1==0) else false) then (a3.2.1==0) else false) then (((a3.1.length:Nat):Int)==8) else false) then (((a4.Value_.Lo:Int)==(A5 5).Lo)&&(((a4.Value_.Hi:Int)==(A5 5).Hi)&&true)) else false) then ((a5.Key.Name==(⟨#[97]⟩:ByteArray))&&(((a5.Key.Tilt:Int)==0)&&(((a5.Key.Time:Int)==100)&&true))) else false) then ((((a6.Value_.Lo:Int)==(A5 7).Lo)&&(((a6.Value_.Hi:Int)==(A5 7).Hi)&&true))&&(((a6.Key.Name==(⟨#[98]⟩:ByteArray))&&(((a6.Key.Tilt:Int)==0)&&(((a6.Key.Time:Int)==100)&&true)))&&true)) else false)))
def Ag (F:Nat):Option Bool :=
  some true
def Co (F:Nat) (p1:mosaic_Message):Option (Bool×Int) :=
  (Ag F).bind fun y5 =>
  some (false,1)
def Cn (F:Nat) (p1:mosaic_Node):Option (Int×Int) :=
  (Ag F).bind fun a0 =>
  some (0,1)
def C2 (F:Nat) (p0:mosaic_Node):Option (Int×Int×mosaic_Node) :=
  (Be F p0).bind fun a0 =>
  bif a0 then (some (0,1,p0)) else ((Ag F).bind fun a1 =>
  some (0,1,p0))
def C3 (F:Nat) (p1:(List mosaic_Key)):Option ((List mosaic_Message)×Int) :=
  (Ag F).bind fun y5 =>
  some (([]:(List mosaic_Message)),1)
def Br (F:Nat) (p1:Int):Option Int :=
  (Ag F).bind fun y1 =>
  some 1
def Bw (F:Nat) (p1:Int):Option ((List mosaic_Pixel)×Int) :=
  (Br F p1).bind fun y1 =>
  some (([]:(List mosaic_Pixel)),1)
def Cl (F:Nat) (p1:Int):Option (api_Field×Int) :=
  (Bw F p1).bind fun y2 =>
  bif (y2.2 != 0) then (some ((api_Field.mk (api_Grid.mk 0 0 0 0 0) ([]:(List api_Span))),y2.2)) else (none)
def C0 (F:Nat) (p1:Int):Option ((List mosaic_Clash)×Int) :=
  (Br F p1).bind fun y1 =>
  some (([]:(List mosaic_Clash)),1)
def Cc (F:Nat) (p1:Int):Option (Int×Int) :=
  (Ag F).bind fun y1 =>
  some (0,1)
def Cv (F:Nat):Option (List mosaic_Key) :=
  (Ag F).bind fun y1 =>
  some ([]:(List mosaic_Key))
def C1 (F:Nat):Option Int :=
  (Ag F).bind fun y1 =>
  some 0
def Bu (F:Nat):Option (List Int) :=
  (Ag F).bind fun y1 =>
  some ([]:(List Int))
def Ct (F:Nat):Option Unit :=
  (Ag F).bind fun y1 =>
  some ()
def Aj (F:Nat):Option Bool :=
  some true
def Cy (F:Nat) (p1:mosaic_Message):Option (Bool×Int) :=
  (Aj F).bind fun y5 =>
  some (false,1)
def Cw (F:Nat) (p1:mosaic_Node):Option (Int×Int) :=
  (Aj F).bind fun a0 =>
  some (0,1)
def Cf (F:Nat) (p0:mosaic_Node):Option (Int×Int×mosaic_Node) :=
  (Be F p0).bind fun a0 =>
  bif a0 then (some (0,1,p0)) else ((Aj F).bind fun a1 =>
  some (0,1,p0))
def Cg (F:Nat) (p1:(List mosaic_Key)):Option ((List mosaic_Message)×Int) :=
  (Aj F).bind fun y5 =>
  some (([]:(List mosaic_Message)),1)
def Bt (F:Nat) (p1:Int):Option Int :=
  (Aj F).bind fun y1 =>
  some 1
def C7 (F:Nat) (p1:Int):Option ((List mosaic_Pixel)×Int) :=
  (Bt F p1).bind fun y1 =>
  some (([]:(List mosaic_Pixel)),1)
def Cu (F:Nat) (p1:Int):Option (api_Field×Int) :=
  (C7 F p1).bind fun y2 =>
  bif (y2.2 != 0) then (some ((api_Field.mk (api_Grid.mk 0 0 0 0 0) ([]:(List api_Span))),y2.2)) else (none)
def Cb (F:Nat) (p1:Int):Option ((List mosaic_Clash)×Int) :=
  (Bt F p1).bind fun y1 =>
  some (([]:(List mosaic_Clash)),1)
def Cm (F:Nat) (p1:Int):Option (Int×Int) :=
  (Aj F).bind fun y1 =>
  some (0,1)
def Dc (F:Nat):Option (List mosaic_Key) :=
  (Aj F).bind fun y1 =>
  some ([]:(List mosaic_Key))
def Ce (F:Nat):Option Int :=
  (Aj F).bind fun y1 =>
  some 0
def C4 (F:Nat):Option (List Int) :=
  (Aj F).bind fun y1 =>
  some ([]:(List Int))
def Db (F:Nat):Option Unit :=
  (Aj F).bind fun y1 =>
  some ()
def E8 (F:Nat) (p0:Bool) (p1:Int):Option Bool :=
  bif p0 then ((Gk F (mosaic_Spec.mk (api_Grid.mk law11_S.Grid.X law11_S.Grid.Y law11_S.Grid.Size law11_S.Grid.Wide law11_S.Grid.High) (api_Span.mk law11_S.Earth.Lo law11_S.Earth.Hi) law11_S.Radars law11_S.Age)).bind fun y8 =>
  exc y8 (fun aO=>none) (fun a1=>bif (a1.2 != 0) then (some false) else ((D9 F (⟨#[97]⟩:ByteArray) 1 1).bind fun aM =>
  (Co F aM).bind fun aW =>
  (Cn F (mosaic_Node.mk (mosaic_Spec.mk (api_Grid.mk a1.1.spec.Grid.X a1.1.spec.Grid.Y a1.1.spec.Grid.Size a1.1.spec.Grid.Wide a1.1.spec.Grid.High) (api_Span.mk a1.1.spec.Earth.Lo a1.1.spec.Earth.Hi) a1.1.spec.Radars a1.1.spec.Age) a1.1.radars a1.1.horizon a1.1.kept a1.1.count a1.1.looks)).bind fun aX =>
  (C2 F (mosaic_Node.mk (mosaic_Spec.mk (api_Grid.mk a1.1.spec.Grid.X a1.1.spec.Grid.Y a1.1.spec.Grid.Size a1.1.spec.Grid.Wide a1.1.spec.Grid.High) (api_Span.mk a1.1.spec.Earth.Lo a1.1.spec.Earth.Hi) a1.1.spec.Radars a1.1.spec.Age) a1.1.radars a1.1.horizon a1.1.kept a1.1.count a1.1.looks)).bind fun a8 =>
  (C3 F ([]:(List mosaic_Key))).bind fun a9 =>
  (Bw F p1).bind fun aA =>
  (Cl F p1).bind fun a3 =>
  (C0 F p1).bind fun aB =>
  (Cc F p1).bind fun aY =>
  bif (bif (bif (bif (bif (bif (bif (bif (bif (bif (bif (bif (bif (bif (bif (bif (1==1) then (0==0) else false) then (1==1) else false) then (a8.1==0) else false) then (a8.2.1==1) else false) then (((a9.1.length:Nat):Int)==0) else false) then (a9.2==1) else false) then (((aA.1.length:Nat):Int)==0) else false) then (aA.2==1) else false) then (((a3.1.Vals.length:Nat):Int)==0) else false) then (((a3.1.Grid.X:Int)==0)&&(((a3.1.Grid.Y:Int)==0)&&(((a3.1.Grid.Size:Int)==0)&&(((a3.1.Grid.Wide:Int)==0)&&(((a3.1.Grid.High:Int)==0)&&true))))) else false) then (a3.2==1) else false) then (((aB.1.length:Nat):Int)==0) else false) then (aB.2==1) else false) then (0==0) else false) then (1==1) else false) then ((Cv F).bind fun aC =>
  bif (((aC.length:Nat):Int)==0) then ((Ey F).bind fun aD =>
  bif (((aD.length:Nat):Int)==0) then ((C1 F).bind fun aP =>
  bif (0==0) then ((Bu F).bind fun aE =>
  bif (((aE.length:Nat):Int)==0) then ((Ct F).bind fun aQ =>
  (H7 F).bind fun aF =>
  some aF) else (some false)) else (some false)) else (some false)) else (some false)) else (some false)))) else ((Gk F (mosaic_Spec.mk (api_Grid.mk law11_S.Grid.X law11_S.Grid.Y law11_S.Grid.Size law11_S.Grid.Wide law11_S.Grid.High) (api_Span.mk law11_S.Earth.Lo law11_S.Earth.Hi) law11_S.Radars law11_S.Age)).bind fun aG =>
  exc aG (fun aN=>none) (fun a0=>bif (a0.2 != 0) then (some false) else ((D9 F (⟨#[97]⟩:ByteArray) 1 1).bind fun aH =>
  (Cy F aH).bind fun aR =>
  (Cw F (mosaic_Node.mk (mosaic_Spec.mk (api_Grid.mk a0.1.spec.Grid.X a0.1.spec.Grid.Y a0.1.spec.Grid.Size a0.1.spec.Grid.Wide a0.1.spec.Grid.High) (api_Span.mk a0.1.spec.Earth.Lo a0.1.spec.Earth.Hi) a0.1.spec.Radars a0.1.spec.Age) a0.1.radars a0.1.horizon a0.1.kept a0.1.count a0.1.looks)).bind fun aS =>
  (Cf F (mosaic_Node.mk (mosaic_Spec.mk (api_Grid.mk a0.1.spec.Grid.X a0.1.spec.Grid.Y a0.1.spec.Grid.Size a0.1.spec.Grid.Wide a0.1.spec.Grid.High) (api_Span.mk a0.1.spec.Earth.Lo a0.1.spec.Earth.Hi) a0.1.spec.Radars a0.1.spec.Age) a0.1.radars a0.1.horizon a0.1.kept a0.1.count a0.1.looks)).bind fun a4 =>
  (Cg F ([]:(List mosaic_Key))).bind fun a5 =>
  (C7 F p1).bind fun a6 =>
  (Cu F p1).bind fun a2 =>
  (Cb F p1).bind fun a7 =>
  (Cm F p1).bind fun aT =>
  bif (bif (bif (bif (bif (bif (bif (bif (bif (bif (bif (bif (bif (bif (bif (bif (1==1) then (0==0) else false) then (1==1) else false) then (a4.1==0) else false) then (a4.2.1==1) else false) then (((a5.1.length:Nat):Int)==0) else false) then (a5.2==1) else false) then (((a6.1.length:Nat):Int)==0) else false) then (a6.2==1) else false) then (((a2.1.Vals.length:Nat):Int)==0) else false) then (((a2.1.Grid.X:Int)==0)&&(((a2.1.Grid.Y:Int)==0)&&(((a2.1.Grid.Size:Int)==0)&&(((a2.1.Grid.Wide:Int)==0)&&(((a2.1.Grid.High:Int)==0)&&true))))) else false) then (a2.2==1) else false) then (((a7.1.length:Nat):Int)==0) else false) then (a7.2==1) else false) then (0==0) else false) then (1==1) else false) then ((Dc F).bind fun aI =>
  bif (((aI.length:Nat):Int)==0) then ((Fq F).bind fun aJ =>
  bif (((aJ.length:Nat):Int)==0) then ((Ce F).bind fun aU =>
  bif (0==0) then ((C4 F).bind fun aK =>
  bif (((aK.length:Nat):Int)==0) then ((Db F).bind fun aV =>
  (H7 F).bind fun aL =>
  some aL) else (some false)) else (some false)) else (some false)) else (some false)) else (some false))))
end Go.Proofs.YtkbjbnkkfifbmaaGreat
