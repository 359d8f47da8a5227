import Derived.Test.YtkbjbnkkfifbmaaGreatF8EB
namespace Go.Proofs.YtkbjbnkkfifbmaaGreat
open Go Go.RowKit Go.Eng
set_option maxRecDepth 10000
set_option maxHeartbeats 4000000
set_option linter.unusedVariables false
set_option linter.unusedSimpArgs false
structure api_Grid where
  X:Int
  Y:Int
  Size:Int
  Wide:Int
  High:Int
  deriving Inhabited,DecidableEq
def api_Grid.cells (x:api_Grid):List Value:=[.int .i64 x.X,.int .i64 x.Y,.int .i64 x.Size,.int .i64 x.Wide,.int .i64 x.High]
structure api_Span where
  Lo:Int
  Hi:Int
  deriving Inhabited,DecidableEq
def api_Span.cells (x:api_Span):List Value:=[.int .i64 x.Lo,.int .i64 x.Hi]
theorem api_Span.cells_len (x:api_Span):(api_Span.cells x).length=2:=rfl
structure api_Site where
  Name:ByteArray
  X:Int
  Y:Int
  Z:Int
  Rose:Int
  Gates:Int
  Step:Int
  Width:Int
  deriving Inhabited,DecidableEq
def api_Site.cells (x:api_Site):List Value:=[.string x.Name,.int .i64 x.X,.int .i64 x.Y,.int .i64 x.Z,.int .i64 x.Rose,.int .i64 x.Gates,.int .i64 x.Step,.int .i64 x.Width]
structure mosaic_Radar where
  Site:api_Site
  Offset:api_Span
  deriving Inhabited,DecidableEq
def mosaic_Radar.cells (x:mosaic_Radar):List Value:=[.string x.Site.Name,.int .i64 x.Site.X,.int .i64 x.Site.Y,.int .i64 x.Site.Z,.int .i64 x.Site.Rose,.int .i64 x.Site.Gates,.int .i64 x.Site.Step,.int .i64 x.Site.Width,.int .i64 x.Offset.Lo,.int .i64 x.Offset.Hi]
theorem mosaic_Radar.cells_len (x:mosaic_Radar):(mosaic_Radar.cells x).length=10:=rfl
structure mosaic_Spec where
  Grid:api_Grid
  Earth:api_Span
  Radars:(List mosaic_Radar)
  Age:Int
  deriving Inhabited,DecidableEq
structure mosaic_Key where
  Name:ByteArray
  Tilt:Int
  Time:Int
  deriving Inhabited,DecidableEq
def mosaic_Key.cells (x:mosaic_Key):List Value:=[.string x.Name,.int .i64 x.Tilt,.int .i64 x.Time]
theorem mosaic_Key.cells_len (x:mosaic_Key):(mosaic_Key.cells x).length=3:=rfl
structure mosaic_where where
  name:ByteArray
  tilt:Int
  deriving Inhabited,DecidableEq
def mosaic_where.cells (x:mosaic_where):List Value:=[.string x.name,.int .i64 x.tilt]
structure mosaic_Node where
  spec:mosaic_Spec
  radars:(List (ByteArray×mosaic_Radar))
  horizon:Int
  kept:(List (mosaic_Key×(List (List api_Span))))
  count:Int
  looks:(List (mosaic_where×(List api_Span)))
  deriving Inhabited,DecidableEq
structure mosaic_Message where
  Key:mosaic_Key
  Vals:(List api_Span)
  deriving Inhabited,DecidableEq
structure beam_slant where
  c:Int
  s:Int
  d:Int
  deriving Inhabited,DecidableEq
def beam_slant.cells (x:beam_slant):List Value:=[.int .i64 x.c,.int .i64 x.s,.int .i64 x.d]
structure beam_vector where
  x:Int
  y:Int
  length:Int
  deriving Inhabited,DecidableEq
def beam_vector.cells (x:beam_vector):List Value:=[.int .i64 x.x,.int .i64 x.y,.int .i64 x.length]
structure mosaic_used where
  Key:mosaic_Key
  vals:(List api_Span)
  bands:(List api_Span)
  deriving Inhabited,DecidableEq
structure mosaic_Pixel where
  Value_:api_Span
  Key:mosaic_Key
  deriving Inhabited,DecidableEq
def mosaic_Pixel.cells (x:mosaic_Pixel):List Value:=[.int .i64 x.Value_.Lo,.int .i64 x.Value_.Hi,.string x.Key.Name,.int .i64 x.Key.Tilt,.int .i64 x.Key.Time]
theorem mosaic_Pixel.cells_len (x:mosaic_Pixel):(mosaic_Pixel.cells x).length=5:=rfl
abbrev api_Grid.ar (x:api_Grid):Array Value:=#[.int .i64 x.X,.int .i64 x.Y,.int .i64 x.Size,.int .i64 x.Wide,.int .i64 x.High]
abbrev api_Grid.ag (x:api_Grid):Value:=.agg #[.int .i64 x.X,.int .i64 x.Y,.int .i64 x.Size,.int .i64 x.Wide,.int .i64 x.High]
abbrev api_Site.ar (x:api_Site):Array Value:=#[.string x.Name,.int .i64 x.X,.int .i64 x.Y,.int .i64 x.Z,.int .i64 x.Rose,.int .i64 x.Gates,.int .i64 x.Step,.int .i64 x.Width]
abbrev api_Site.ag (x:api_Site):Value:=.agg #[.string x.Name,.int .i64 x.X,.int .i64 x.Y,.int .i64 x.Z,.int .i64 x.Rose,.int .i64 x.Gates,.int .i64 x.Step,.int .i64 x.Width]
abbrev mosaic_Radar.ar (x:mosaic_Radar):Array Value:=#[.string x.Site.Name,.int .i64 x.Site.X,.int .i64 x.Site.Y,.int .i64 x.Site.Z,.int .i64 x.Site.Rose,.int .i64 x.Site.Gates,.int .i64 x.Site.Step,.int .i64 x.Site.Width,.int .i64 x.Offset.Lo,.int .i64 x.Offset.Hi]
abbrev mosaic_Radar.ag (x:mosaic_Radar):Value:=.agg #[.string x.Site.Name,.int .i64 x.Site.X,.int .i64 x.Site.Y,.int .i64 x.Site.Z,.int .i64 x.Site.Rose,.int .i64 x.Site.Gates,.int .i64 x.Site.Step,.int .i64 x.Site.Width,.int .i64 x.Offset.Lo,.int .i64 x.Offset.Hi]
abbrev mosaic_Key.ar (x:mosaic_Key):Array Value:=#[.string x.Name,.int .i64 x.Tilt,.int .i64 x.Time]
abbrev mosaic_Key.ag (x:mosaic_Key):Value:=.agg #[.string x.Name,.int .i64 x.Tilt,.int .i64 x.Time]
abbrev beam_slant.ar (x:beam_slant):Array Value:=#[.int .i64 x.c,.int .i64 x.s,.int .i64 x.d]
abbrev beam_slant.ag (x:beam_slant):Value:=.agg #[.int .i64 x.c,.int .i64 x.s,.int .i64 x.d]
abbrev beam_vector.ar (x:beam_vector):Array Value:=#[.int .i64 x.x,.int .i64 x.y,.int .i64 x.length]
abbrev beam_vector.ag (x:beam_vector):Value:=.agg #[.int .i64 x.x,.int .i64 x.y,.int .i64 x.length]
abbrev mosaic_Pixel.ar (x:mosaic_Pixel):Array Value:=#[.int .i64 x.Value_.Lo,.int .i64 x.Value_.Hi,.string x.Key.Name,.int .i64 x.Key.Tilt,.int .i64 x.Key.Time]
abbrev mosaic_Pixel.ag (x:mosaic_Pixel):Value:=.agg #[.int .i64 x.Value_.Lo,.int .i64 x.Value_.Hi,.string x.Key.Name,.int .i64 x.Key.Tilt,.int .i64 x.Key.Time]
abbrev mosaic_Node.ax (x:mosaic_Node) (adg1_:Option Addr) (capg2_:Nat) (mg3_:Nat) (mg4_:Nat) (mg5_:Nat):Array Value:=#[.int .i64 x.spec.Grid.X,.int .i64 x.spec.Grid.Y,.int .i64 x.spec.Grid.Size,.int .i64 x.spec.Grid.Wide,.int .i64 x.spec.Grid.High,.int .i64 x.spec.Earth.Lo,.int .i64 x.spec.Earth.Hi,.slice adg1_ x.spec.Radars.length capg2_,.int .i64 x.spec.Age,.map (some mg3_),.int .i64 x.horizon,.map (some mg4_),.int .i64 x.count,.map (some mg5_)]
abbrev mosaic_Spec.ax (x:mosaic_Spec) (adg1_:Option Addr) (capg2_:Nat):Array Value:=#[.int .i64 x.Grid.X,.int .i64 x.Grid.Y,.int .i64 x.Grid.Size,.int .i64 x.Grid.Wide,.int .i64 x.Grid.High,.int .i64 x.Earth.Lo,.int .i64 x.Earth.Hi,.slice adg1_ x.Radars.length capg2_,.int .i64 x.Age]
abbrev api_Grid.e0 (x:api_Grid):Bool:=(((x.X:Int)==0)&&(((x.Y:Int)==0)&&(((x.Size:Int)==0)&&(((x.Wide:Int)==0)&&(((x.High:Int)==0)&&true)))))
abbrev api_Site.e0 (x:api_Site):Bool:=((x.Name==ByteArray.empty)&&(((x.X:Int)==0)&&(((x.Y:Int)==0)&&(((x.Z:Int)==0)&&(((x.Rose:Int)==0)&&(((x.Gates:Int)==0)&&(((x.Step:Int)==0)&&(((x.Width:Int)==0)&&true))))))))
abbrev mosaic_Radar.e0 (x:mosaic_Radar):Bool:=((x.Site.Name==ByteArray.empty)&&(((x.Site.X:Int)==0)&&(((x.Site.Y:Int)==0)&&(((x.Site.Z:Int)==0)&&(((x.Site.Rose:Int)==0)&&(((x.Site.Gates:Int)==0)&&(((x.Site.Step:Int)==0)&&(((x.Site.Width:Int)==0)&&(((x.Offset.Lo:Int)==0)&&(((x.Offset.Hi:Int)==0)&&true))))))))))
abbrev mosaic_Key.e0 (x:mosaic_Key):Bool:=((x.Name==ByteArray.empty)&&(((x.Tilt:Int)==0)&&(((x.Time:Int)==0)&&true)))
abbrev beam_slant.e0 (x:beam_slant):Bool:=(((x.c:Int)==0)&&(((x.s:Int)==0)&&(((x.d:Int)==0)&&true)))
abbrev beam_vector.e0 (x:beam_vector):Bool:=(((x.x:Int)==0)&&(((x.y:Int)==0)&&(((x.length:Int)==0)&&true)))
abbrev mosaic_Pixel.e0 (x:mosaic_Pixel):Bool:=(((x.Value_.Lo:Int)==0)&&(((x.Value_.Hi:Int)==0)&&((x.Key.Name==ByteArray.empty)&&(((x.Key.Tilt:Int)==0)&&(((x.Key.Time:Int)==0)&&true)))))
abbrev Tk:Array Value:=#[.string ByteArray.empty,.int .i64 0,.int .i64 0,.int .i64 0,.int .i64 0,.int .i64 0,.int .i64 0,.int .i64 0,.int .i64 0,.int .i64 0]
abbrev z37:Array Value:=#[.int .i64 0,.int .i64 0,.int .i64 0,.int .i64 0,.int .i64 0,.int .i64 0,.int .i64 0,.slice none 0 0,.int .i64 0]
abbrev S6:Array Value:=#[.string ByteArray.empty,.int .i64 0,.int .i64 0,.int .i64 0,.int .i64 0,.int .i64 0,.int .i64 0,.int .i64 0]
abbrev z66:Array Value:=#[.int .i64 0,.int .i64 0,.string ByteArray.empty,.int .i64 0,.int .i64 0]
abbrev z49:Array Value:=#[.string ByteArray.empty,.int .i64 0,.int .i64 0,.slice none 0 0]
def Rp47:Rel (List api_Span):=fun μ cs x=>∃(ad1:Option Addr) (cap2:Nat),cs=[.slice ad1 x.length cap2]∧ArrM μ 2 api_Span.cells ad1 cap2 x
theorem Rp47.mono:Rel.Mono Rp47:=by
  intro μ ν cs x hle h;obtain ⟨ad1,cap2,rfl,f0⟩:=h;exact ⟨ad1,cap2,rfl,f0.mono hle⟩
theorem Rp47.one:Rel.One 1 Rp47:=by
  intro μ cs x h;obtain ⟨ad1,cap2,rfl,f0⟩:=h
  all_goals rfl
def Rp155:Rel mosaic_used:=fun μ cs x=>∃(ad1:Option Addr) (cap2:Nat) (ad3:Option Addr) (cap4:Nat),cs=[.string x.Key.Name,.int .i64 x.Key.Tilt,.int .i64 x.Key.Time,.slice ad1 x.vals.length cap2,.slice ad3 x.bands.length cap4]∧ArrM μ 2 api_Span.cells ad1 cap2 x.vals∧ArrM μ 2 api_Span.cells ad3 cap4 x.bands
theorem Rp155.mono:Rel.Mono Rp155:=by
  intro μ ν cs x hle h;obtain ⟨ad1,cap2,ad3,cap4,rfl,f0,f1⟩:=h;exact ⟨ad1,cap2,ad3,cap4,rfl,f0.mono hle,f1.mono hle⟩
theorem Rp155.one:Rel.One 5 Rp155:=by
  intro μ cs x h;obtain ⟨ad1,cap2,ad3,cap4,rfl,f0,f1⟩:=h
  all_goals rfl
def Rp49:Rel mosaic_Message:=fun μ cs x=>∃(ad1:Option Addr) (cap2:Nat),cs=[.string x.Key.Name,.int .i64 x.Key.Tilt,.int .i64 x.Key.Time,.slice ad1 x.Vals.length cap2]∧ArrM μ 2 api_Span.cells ad1 cap2 x.Vals
theorem Rp49.mono:Rel.Mono Rp49:=by
  intro μ ν cs x hle h;obtain ⟨ad1,cap2,rfl,f0⟩:=h;exact ⟨ad1,cap2,rfl,f0.mono hle⟩
theorem Rp49.one:Rel.One 4 Rp49:=by
  intro μ cs x h;obtain ⟨ad1,cap2,rfl,f0⟩:=h
  all_goals rfl
def Ee (p0:ByteArray):Bool:=Y7 p0
def or3 (x y z:Int):Int:=if x≠0 then x else if y≠0 then y else z
def Dj (x y:mosaic_Key):Int:=or3 (if x.Time<y.Time then -1 else if y.Time<x.Time then 1 else 0) (if Nl x.Name y.Name then -1 else if Ma x.Name y.Name then 1 else 0) (if x.Tilt<y.Tilt then -1 else if y.Tilt<x.Tilt then 1 else 0)
def Cr (l:List mosaic_Key):List mosaic_Key:=P8 Dj l
def E7 (F:Nat) (p0:mosaic_Node):Option (List mosaic_Key):=if p0.kept.length≤1000000 then some (Cr (p0.kept.map (·.1))) else none
def Ec (F:Nat) (p0:List (List api_Span)) (p1:Int) (p2:List (List api_Span)):Option (List (List api_Span)):=if 0≤p1∧p1≤(p0.length:Int)∧p2.length=1∧p0.length≤1000000 then some (p0.take p1.toNat++p2++p0.drop p1.toNat) else none
def Hr (time:Int) (p:mosaic_Key×List (List api_Span)):Bool:=decide (p.1.Time<time)
def H7 (time:Int) (l:List (mosaic_Key×List (List api_Span))):Nat:=((l.filter (Hr time)).map fun p=>p.2.length).sum
def ndK:List mosaic_Key→Bool
  | []=>true
  | k::l=>!l.contains k&&ndK l
def Fa (F:Nat) (p0:mosaic_Node) (p1:Int):Option (Int×mosaic_Node):=if ndK (p0.kept.map (·.1))=true∧-1000000000000≤p0.count∧p0.count≤1000000000000∧H7 p1 p0.kept≤1000000000000 then some ((H7 p1 p0.kept:Int),{ p0 with horizon:=p1,kept:=p0.kept.filter (fun p=>!Hr p1 p),count:=p0.count-H7 p1 p0.kept }) else none
def M3 (F:Nat) (p0:mosaic_Node):Option mosaic_Node:=some p0
def A8 (p0:Int) (p1:Int) (p2:Int):Bool :=
  bif (decide (p1≤p0)) then (decide (p0≤p2)) else false
def Bq (c2:Bool):Int :=
  bif c2 then (3) else (0)
def B8 (p0:api_Grid):Int :=
  bif (!(A8 p0.X (-1048576) 1048576)) then (Bq (!(A8 p0.X (-1048576) 1048576))) else (bif (!(A8 p0.Y (-1048576) 1048576)) then (Bq (!(A8 p0.Y (-1048576) 1048576))) else (bif (!(A8 p0.Size 1 10000)) then (Bq (!(A8 p0.Size 1 10000))) else (bif (!(A8 p0.Wide 1 64)) then (Bq (!(A8 p0.Wide 1 64))) else (Bq (!(A8 p0.High 1 64))))))
def Bj (p0:api_Span) (p1:Int) (p2:Int):Bool :=
  bif (bif (decide (p1≤p0.Lo)) then (decide (p0.Lo≤p0.Hi)) else false) then (decide (p0.Hi≤p2)) else false
def Az (p0:Int) (p1:Int) (p2:Int):Bool :=
  bif (decide (p1≤p0)) then (decide (p0≤p2)) else false
def Lh (F:Nat) (p0:ByteArray):Option Bool :=
  (gd (((bif (!(sEq p0 (⟨#[]⟩:ByteArray))) then (decide (((p0.size:Nat):Int)≤12)) else false)==true&&true)) (Vf p0 (0:Int)) default).bind fun u1 =>
  (gd (((bif (bif (!(sEq p0 (⟨#[]⟩:ByteArray))) then (decide (((p0.size:Nat):Int)≤12)) else false) then (decide (u1≥97)) else false)==true&&true)) (Vf p0 (0:Int)) default).bind fun u2 =>
  some (bif (bif (bif (bif (!(sEq p0 (⟨#[]⟩:ByteArray))) then (decide (((p0.size:Nat):Int)≤12)) else false) then (decide (u1≥97)) else false) then (decide (u2≤122)) else false) then (!(Ee p0)) else false)
def Ch (c4:Bool):Option Int :=
  bif c4 then (some 3) else (some 0)
def D0 (p0:api_Site) (c3:Bool):Option Int :=
  bif c3 then (some 3) else (bif (!(A8 p0.Rose 1 90)) then (Ch (!(A8 p0.Rose 1 90))) else (bif (!(A8 p0.Gates 1 200)) then (Ch (!(A8 p0.Gates 1 200))) else (bif (!(A8 p0.Step 50 2000)) then (Ch (!(A8 p0.Step 50 2000))) else (Ch (!(A8 p0.Width 0 8))))))
def beam_CheckSite (F:Nat) (p0:api_Site):Option Int :=
  (Lh F p0.Name).bind fun y2 =>
  bif (!y2) then (some 10) else (bif (!(A8 p0.X (-1048576) 1048576)) then (D0 p0 (!(A8 p0.X (-1048576) 1048576))) else (bif (!(A8 p0.Y (-1048576) 1048576)) then (D0 p0 (!(A8 p0.Y (-1048576) 1048576))) else (D0 p0 (!(A8 p0.Z 0 20000)))))
def G7 (a0:(List (ByteArray×Bool))):Option Int :=
  some 0
def Ex (F:Nat) (p0:mosaic_Spec) (k2:((List (ByteArray×Bool))→Int→Option Int)) (a1:(List (ByteArray×Bool))) (a2:Int):Option Int :=
  bif (decide (a2<((p0.Radars.length:Nat):Int))) then ((Cb p0.Radars a2).bind fun a0 =>
  (beam_CheckSite F a0.Site).bind fun a3 =>
  bif (a3 != 0) then (some a3) else (bif ((lkM a1 a0.Site.Name).getD false) then (some 5) else (bif (!(Bj a0.Offset (-3600) 3600)) then (some 3) else ((ck (a2+1)).bind fun a4 =>
  k2 (upM a1 a0.Site.Name true) a4)))) else (G7 a1)
def Cz (F:Nat) (p0:mosaic_Spec):Nat→(List (ByteArray×Bool))→Int→Option Int
  | 0,_,_=>none
  | n+1,a0,a1=>Ex F p0 (Cz F p0 n) a0 a1
def Fg (F:Nat) (p0:mosaic_Spec):Option Int :=
  bif ((B8 p0.Grid) != 0) then (some (B8 p0.Grid)) else (bif (bif (!(Bj p0.Earth 1000000 100000000)) then true else (!(Az p0.Age 1 86400))) then (some 3) else (bif (((p0.Radars.length:Nat):Int)==0) then (some 18) else (bif (decide (((p0.Radars.length:Nat):Int)>32)) then (some 9) else (Cz F p0 F ([]:List (ByteArray×Bool)) 0))))
def Ax (F:Nat) (p0:(List mosaic_Radar)):Option (List mosaic_Radar) :=
  (apd 88 ([]:List mosaic_Radar) p0).bind fun l5 =>
  some l5
def Hg (p0:mosaic_Spec) (y7:(List mosaic_Radar)) (a0:(List (ByteArray×mosaic_Radar))):Option (Except Int (mosaic_Node×Int)) :=
  some (.ok ((mosaic_Node.mk (mosaic_Spec.mk p0.Grid p0.Earth y7 p0.Age) a0 0 ([]:List (mosaic_Key×(List (List api_Span)))) 0 ([]:List (mosaic_where×(List api_Span)))),0))
def G0 (p0:mosaic_Spec) (y7:(List mosaic_Radar)) (k2:((List (ByteArray×mosaic_Radar))→Int→Option (Except Int (mosaic_Node×Int)))) (a1:(List (ByteArray×mosaic_Radar))) (a0:Int):Option (Except Int (mosaic_Node×Int)) :=
  bif (decide (a0<((y7.length:Nat):Int))) then ((Cb y7 a0).bind fun a2 =>
  (ck (a0+1)).bind fun a3 =>
  k2 (upM a1 a2.Site.Name a2) a3) else (Hg p0 y7 a1)
def Dz (p0:mosaic_Spec) (y7:(List mosaic_Radar)):Nat→(List (ByteArray×mosaic_Radar))→Int→Option (Except Int (mosaic_Node×Int))
  | 0,_,_=>none
  | n+1,a0,a1=>G0 p0 y7 (Dz p0 y7 n) a0 a1
def F1 (F:Nat) (p0:mosaic_Spec):Option (Except Int (mosaic_Node×Int)) :=
  (Fg F p0).bind fun y5 =>
  bif (y5 != 0) then (some (.error y5)) else ((Ax F p0.Radars).bind fun y7 =>
  Dz p0 y7 F ([]:List (ByteArray×mosaic_Radar)) 0)
def Bg (F:Nat) (p0:mosaic_Node):Option Bool :=
  some false
def E2:Option Int :=
  some 0
def Cu (p1:mosaic_Message) (k2:(Int→Option Int)) (a0:Int):Option Int :=
  bif (decide (a0<((p1.Vals.length:Nat):Int))) then ((Cb p1.Vals a0).bind fun a1 =>
  bif (!(Bj a1 0 1000000)) then (some 3) else ((ck (a0+1)).bind fun a2 =>
  k2 a2)) else (E2)
def Bc (p1:mosaic_Message):Nat→Int→Option Int
  | 0,_=>none
  | n+1,a0=>Cu p1 (Bc p1 n) a0
def Bu (F:Nat) (p0:mosaic_Node) (p1:mosaic_Message):Option Int :=
  bif (!((lkM p0.radars p1.Key.Name).isSome)) then (some 4) else (bif (bif (!(Az p1.Key.Tilt 0 256)) then true else (!(Az p1.Key.Time 0 4294967296))) then (some 3) else ((ck (p0.spec.Grid.Wide*p0.spec.Grid.High)).bind fun a0 =>
  bif (((p1.Vals.length:Nat):Int) != a0) then (some 11) else (Bc p1 F 0)))
def Hf:Option Int :=
  some 0
def Fx (p0:(List Int)) (k2:(Int→Option Int)) (a0:Int):Option Int :=
  bif (decide (a0<((p0.length:Nat):Int))) then ((Cb p0 a0).bind fun a1 =>
  bif (a1 != 0) then (some a1) else ((ck (a0+1)).bind fun a2 =>
  k2 a2)) else (Hf)
def Dx (p0:(List Int)):Nat→Int→Option Int
  | 0,_=>none
  | n+1,a0=>Fx p0 (Dx p0 n) a0
def Gq (F:Nat) (p0:(List Int)):Option Int :=
  Dx p0 F 0
def Bt (p0:Int):Bool :=
  p0 != p0
def Aa (p0:Int) (p1:Int):Int :=
  bif (Bt p0) then (bif (Bt p1) then (0) else (-1)) else (bif (Bt p1) then (1) else (bif (decide (p0<p1)) then (-1) else (bif (decide (p0>p1)) then (1) else (0))))
def Dg (F:Nat) (p0:api_Span) (p1:api_Span):Option Int :=
  (Gq F ([(Aa p0.Lo p1.Lo),(Aa p0.Hi p1.Hi)])).bind fun y4 =>
  some y4
def Ak (p0:(List api_Span)) (p1:(List api_Span)):Option Int :=
  bif (decide (((p0.length:Nat):Int)<((p1.length:Nat):Int))) then (some (-1)) else (some 0)
def Aj (F:Nat) (p0:(List api_Span)) (p1:(List api_Span)) (k2:(Int→Option Int)) (a0:Int):Option Int :=
  bif (decide (a0<((p0.length:Nat):Int))) then ((Cb p0 a0).bind fun a2 =>
  bif (decide (a0≥((p1.length:Nat):Int))) then (some 1) else ((Cb p1 a0).bind fun a3 =>
  (Dg F a2 a3).bind fun a1 =>
  bif (a1 != 0) then (some a1) else ((ck (a0+1)).bind fun a4 =>
  k2 a4))) else (Ak p0 p1)
def A9 (F:Nat) (p0:(List api_Span)) (p1:(List api_Span)):Nat→Int→Option Int
  | 0,_=>none
  | n+1,a0=>Aj F p0 p1 (A9 F p0 p1 n) a0
def Am (F:Nat) (p0:(List api_Span)) (p1:(List api_Span)):Option Int :=
  A9 F p0 p1 F 0
def Df (F:Nat) (p0:(List api_Span)) (p1:(List api_Span)):Option Int :=
  (Am F p0 p1).bind fun y8 =>
  some y8
def Ao (F:Nat) (p0:(List (List api_Span))) (p1:(List api_Span)) (a0:Int):Option (Int×Bool) :=
  bif (decide (a0<((p0.length:Nat):Int))) then ((Cb p0 a0).bind fun a1 =>
  (Df F a1 p1).bind fun a2 =>
  some (a0,a2==0)) else (some (a0,false))
def An (F:Nat) (p0:(List (List api_Span))) (p1:(List api_Span)) (k2:(Int→Int→Option (Int×Bool))) (a1:Int) (a0:Int):Option (Int×Bool) :=
  bif (decide (a0<a1)) then ((ck (a0+a1)).bind fun a4 =>
  (ck (Int.fdiv (IntKind.u64.wrap a4) 2)).bind fun a2 =>
  (Cb p0 a2).bind fun a3 =>
  (Df F a3 p1).bind fun a6 =>
  bif (decide (a6<0)) then ((ck (a2+1)).bind fun a5 =>
  k2 a1 a5) else (k2 a2 a0)) else (Ao F p0 p1 a0)
def Ac (F:Nat) (p0:(List (List api_Span))) (p1:(List api_Span)):Nat→Int→Int→Option (Int×Bool)
  | 0,_,_=>none
  | n+1,a0,a1=>An F p0 p1 (Ac F p0 p1 n) a0 a1
def Ai (F:Nat) (p0:(List (List api_Span))) (p1:(List api_Span)):Option (Int×Bool) :=
  Ac F p0 p1 F ((p0.length:Nat):Int) 0
def Ba (F:Nat) (p0:mosaic_Node) (p1:mosaic_Message):Option (Int×Bool) :=
  (Ai F ((lkM p0.kept p1.Key).getD []) p1.Vals).bind fun a0 =>
  some (a0.1,a0.2)
def B3 (F:Nat) (p0:(List (List api_Span))):Option (List (List api_Span)) :=
  (apd 24 ([]:List (List api_Span)) p0).bind fun l7 =>
  some l7
def As (F:Nat) (p0:(List api_Span)):Option (List api_Span) :=
  (apd 16 ([]:List api_Span) p0).bind fun l5 =>
  some l5
def C0 (F:Nat) (p0:mosaic_Node) (p1:mosaic_Message):Option mosaic_Node :=
  (Ba F p0 p1).bind fun a1 =>
  (B3 F ((lkM p0.kept p1.Key).getD [])).bind fun a2 =>
  (As F p1.Vals).bind fun a3 =>
  (Ec F a2 a1.1 ([a3])).bind fun a4 =>
  (ck (p0.count+1)).bind fun a0 =>
  some (mosaic_Node.mk p0.spec p0.radars p0.horizon (upM p0.kept p1.Key a4) a0 p0.looks)
def Bn (F:Nat) (p0:mosaic_Node) (p1:mosaic_Message):Option (Bool×Int×mosaic_Node) :=
  (Bg F p0).bind fun a1 =>
  bif a1 then (some (false,1,p0)) else ((Bu F p0 p1).bind fun a0 =>
  bif (a0 != 0) then (some (false,a0,p0)) else (bif (decide (p1.Key.Time<p0.horizon)) then (some (false,17,p0)) else ((Ba F p0 p1).bind fun a2 =>
  bif a2.2 then (some (false,0,p0)) else (bif (decide (p0.count≥256)) then (some (false,13,p0)) else ((C0 F p0 p1).bind fun a3 =>
  some (true,0,a3))))))
def F2 (F:Nat) (p0:mosaic_Node) (p1:Int):Option Int :=
  (Bg F p0).bind fun a0 =>
  bif a0 then (some 1) else (bif (!(Az p1 0 4294967296)) then (some 3) else (bif (decide (p1<p0.horizon)) then (some 17) else (some 0)))
def Bi (p0:ByteArray):Bool :=
  !(sEq p0 p0)
def Bm (p0:ByteArray) (p1:ByteArray):Int :=
  bif (Bi p0) then (bif (Bi p1) then (0) else (-1)) else (bif (Bi p1) then (1) else (bif (Nl p0 p1) then (-1) else (bif (Ma p0 p1) then (1) else (0))))
def Di (F:Nat) (p0:Int):Option beam_slant :=
  (ck (p0*p0)).bind fun x2 =>
  (ck (262144-x2)).bind fun x3 =>
  (ck (1024*p0)).bind fun x4 =>
  (ck (p0*p0)).bind fun x5 =>
  (ck (262144+x5)).bind fun x6 =>
  some (beam_slant.mk x3 x4 x6)
def G1 (F:Nat) (p0:Int) (c0_:api_Site) (c1_:beam_slant):Option Int :=
  (ck (p0*c0_.Step)).bind fun x1 =>
  (ck (x1*c1_.c)).bind fun x2 =>
  (Ku x2 c1_.d).bind fun x3 =>
  some x3
def J6 (a0:Int):Option Int :=
  some a0
def J5 (F:Nat) (p0:api_Site) (p2:Int) (y2:beam_slant) (k2:(Int→Int→Option Int)) (a0:Int) (a2:Int):Option Int :=
  (ck (a2-a0)).bind fun a3 =>
  bif (decide (a3>1)) then ((ck (a0+a2)).bind fun a4 =>
  (Ku a4 2).bind fun a1 =>
  (G1 F a1 p0 y2).bind fun a6 =>
  (G1 F a1 p0 y2).bind fun a7 =>
  (ck (a6*a7)).bind fun a5 =>
  bif (decide (a5≤p2)) then (k2 a1 a2) else (k2 a0 a1)) else (J6 a0)
def Gg (F:Nat) (p0:api_Site) (p2:Int) (y2:beam_slant):Nat→Int→Int→Option Int
  | 0,_,_=>none
  | n+1,a0,a1=>J5 F p0 p2 y2 (Gg F p0 p2 y2 n) a0 a1
def Lj (F:Nat) (p0:api_Site) (p1:Int) (p2:Int):Option Int :=
  (Di F p1).bind fun y2 =>
  (G1 F p0.Gates p0 y2).bind fun y4 =>
  (ck (y4*y4)).bind fun x5 =>
  bif (decide (p2≥x5)) then (some (-1)) else (Gg F p0 p2 y2 F 0 p0.Gates)
def Gk (F:Nat) (p0:Int) (p1:Int):Option beam_vector :=
  (M9 p1 p0).bind fun x2 =>
  (ck (2*p0)).bind fun x3 =>
  (ck (x3*x2)).bind fun x4 =>
  (ck (p0*p0)).bind fun x5 =>
  (ck (x2*x2)).bind fun x6 =>
  (ck (x5-x6)).bind fun x7 =>
  (ck (p0*p0)).bind fun x8 =>
  (ck (x2*x2)).bind fun x9 =>
  (ck (x8+x9)).bind fun a0 =>
  (Ku p1 p0).bind fun a1 =>
  bif (a1==0) then (some (beam_vector.mk x4 x7 a0)) else (bif (a1==1) then (bif (a1==0) then (some (beam_vector.mk x4 x7 a0)) else (some (beam_vector.mk x7 (IntKind.i64.wrap (0-x4)) a0))) else (bif (a1==0) then (some (beam_vector.mk x4 x7 a0)) else (bif (a1==2) then (bif (a1==0) then (some (beam_vector.mk x4 x7 a0)) else (some (beam_vector.mk (IntKind.i64.wrap (0-x4)) (IntKind.i64.wrap (0-x7)) a0))) else (bif (a1==0) then (some (beam_vector.mk x4 x7 a0)) else (bif (a1==3) then (bif (a1==0) then (some (beam_vector.mk x4 x7 a0)) else (some (beam_vector.mk (IntKind.i64.wrap (0-x7)) x4 a0))) else (bif (a1==0) then (some (beam_vector.mk x4 x7 a0)) else (none)))))))
def Ff (F:Nat) (p0:beam_vector) (p1:Int) (p2:Int):Option Bool :=
  (ck (p0.y*p1)).bind fun x2 =>
  (ck (p0.x*p2)).bind fun x3 =>
  some (decide (x2≥x3))
def Jq (p0:Int) (a0:Int) (a1:Int):Option Int :=
  (ck (a0*p0)).bind fun a2 =>
  (ck (a2+a1)).bind fun a3 =>
  some a3
def Jn (F:Nat) (p0:Int) (a3:Int) (a4:Int) (a5:Int) (k3:(Int→Int→Option Int)) (a0:Int) (a1:Int):Option Int :=
  (ck (a1-a0)).bind fun a6 =>
  bif (decide (a6>1)) then ((ck (a0+a1)).bind fun a7 =>
  (Ku a7 2).bind fun a2 =>
  (Gk F p0 a2).bind fun a8 =>
  (Ff F a8 a3 a4).bind fun a9 =>
  bif a9 then (k3 a2 a1) else (k3 a0 a2)) else (Jq p0 a5 a0)
def Gz (F:Nat) (p0:Int) (a0:Int) (a1:Int) (a2:Int):Nat→Int→Int→Option Int
  | 0,_,_=>none
  | n+1,a3,a4=>Jn F p0 a0 a1 a2 (Gz F p0 a0 a1 a2 n) a3 a4
def Jp (F:Nat) (p0:Int) (a0:Int) (a1:Int) (a2:Int):Option Int :=
  Gz F p0 a0 a1 a2 F 0 p0
def Jo (F:Nat) (p0:Int) (k4:(Int→Int→Int→Option Int)) (a0:Int) (a1:Int) (a2:Int):Option Int :=
  bif (bif (decide (a0<0)) then true else (decide (a1≤0))) then ((ck (a2+1)).bind fun a3 =>
  k4 (IntKind.i64.wrap (0-a1)) a0 a3) else (Jp F p0 a0 a1 a2)
def H0 (F:Nat) (p0:Int):Nat→Int→Int→Int→Option Int
  | 0,_,_,_=>none
  | n+1,a0,a1,a2=>Jo F p0 (H0 F p0 n) a0 a1 a2
def Mi (F:Nat) (p0:Int) (p1:Int) (p2:Int):Option Int :=
  H0 F p0 F p1 p2 0
def Li (F:Nat) (p0:api_Site) (p1:Int) (p2:Int) (p3:Int):Option (Int×Int×Bool) :=
  (ck (p2-p0.X)).bind fun x2 =>
  (ck (p3-p0.Y)).bind fun x3 =>
  bif (bif (x2==0) then (x3==0) else false) then (some (0,0,true)) else ((ck (x2*x2)).bind fun x4 =>
  (ck (x3*x3)).bind fun x5 =>
  (ck (x4+x5)).bind fun x6 =>
  (Lj F p0 p1 x6).bind fun y7 =>
  bif (decide (y7<0)) then (some (0,0,false)) else ((Mi F p0.Rose x2 x3).bind fun y8 =>
  some (y8,y7,true)))
def J2 (a0:(List Int)):Option ((List Int)×Int) :=
  some (a0,0)
def J3 (a1:Int) (k2:((List Int)→Int→Option ((List Int)×Int))) (a0:(List Int)):Option ((List Int)×Int) :=
  (ck (a1+1)).bind fun a2 =>
  k2 a0 a2
def Gd (a0:(List Int)) (a2:Int) (k4:((List Int)→Int→Option ((List Int)×Int))) (a3:Int):Option ((List Int)×Int) :=
  (apd 8 a0 ([a3])).bind fun a1 =>
  (ck (a2+1)).bind fun a4 =>
  k4 a1 a4
def J1 (F:Nat) (p0:api_Site) (p1:Int) (p2:api_Grid) (a3:Int) (k2:((List Int)→Int→Option ((List Int)×Int))) (k4:((List Int)→Int→Option ((List Int)×Int))) (a1:(List Int)) (a0:Int):Option ((List Int)×Int) :=
  bif (decide (a0<p2.Wide)) then ((ck (a0*p2.Size)).bind fun a4 =>
  (ck (p2.X+a4)).bind fun a5 =>
  (Ku p2.Size 2).bind fun a6 =>
  (ck (a5+a6)).bind fun a7 =>
  (ck (a3*p2.Size)).bind fun a8 =>
  (ck (p2.Y+a8)).bind fun a9 =>
  (Ku p2.Size 2).bind fun aA =>
  (ck (a9+aA)).bind fun aB =>
  (Li F p0 p1 a7 aB).bind fun a2 =>
  bif a2.2.2 then ((ck (a2.1*p0.Gates)).bind fun aC =>
  (ck (aC+a2.2.1)).bind fun aD =>
  Gd a1 a0 k4 aD) else (Gd a1 a0 k4 (-1))) else (J3 a3 k2 a1)
def Gf (F:Nat) (p0:api_Site) (p1:Int) (p2:api_Grid) (a0:Int) (k2:((List Int)→Int→Option ((List Int)×Int))):Nat→(List Int)→Int→Option ((List Int)×Int)
  | 0,_,_=>none
  | n+1,a1,a2=>J1 F p0 p1 p2 a0 k2 (Gf F p0 p1 p2 a0 k2 n) a1 a2
def J0 (F:Nat) (p0:api_Site) (p1:Int) (p2:api_Grid) (k2:((List Int)→Int→Option ((List Int)×Int))) (a0:(List Int)) (a1:Int):Option ((List Int)×Int) :=
  bif (decide (a1<p2.High)) then (Gf F p0 p1 p2 a1 k2 F a0 0) else (J2 a0)
def Ge (F:Nat) (p0:api_Site) (p1:Int) (p2:api_Grid):Nat→(List Int)→Int→Option ((List Int)×Int)
  | 0,_,_=>none
  | n+1,a0,a1=>J0 F p0 p1 p2 (Ge F p0 p1 p2 n) a0 a1
def K7 (F:Nat) (p0:api_Site) (p1:Int) (p2:api_Grid):Option ((List Int)×Int) :=
  (beam_CheckSite F p0).bind fun y3 =>
  bif (y3 != 0) then (some (([]:(List Int)),y3)) else (bif ((B8 p2) != 0) then (some (([]:(List Int)),(B8 p2))) else (bif (!(A8 p1 0 256)) then (some (([]:(List Int)),3)) else ((ck (p2.Wide*p2.High)).bind fun x4 =>
  (mk0 8 x4).bind fun c6 =>
  Ge F p0 p1 p2 F ([]:List Int) 0)))
def E4 (p0:api_Span):Bool :=
  bif (bif (decide (1000000≤p0.Lo)) then (decide (p0.Lo≤p0.Hi)) else false) then (decide (p0.Hi≤100000000)) else false
def Hl (F:Nat) (p0:Int) (p1:Int):Option Int :=
  (Ku p0 p1).bind fun x1 =>
  (ck (x1*p1)).bind fun x2 =>
  bif (decide (x2>p0)) then ((ck (x1-1)).bind fun x3 =>
  some x3) else (some x1)
def L4 (F:Nat) (p0:Int) (p1:Int):Option Int :=
  (Ku p0 p1).bind fun x1 =>
  (ck (x1*p1)).bind fun x2 =>
  bif (decide (x2<p0)) then ((ck (x1+1)).bind fun x3 =>
  some x3) else (some x1)
def Fk (F:Nat) (p0:api_Site) (p1:Int) (p2:Int):Option Int :=
  (Di F p1).bind fun y2 =>
  (ck (2*p2)).bind fun x4 =>
  (ck (x4+1)).bind fun x5 =>
  (ck (x5*p0.Step)).bind fun x6 =>
  (ck (x6*y2.c)).bind fun x7 =>
  (ck (2*y2.d)).bind fun x8 =>
  (Hl F x7 x8).bind fun y9 =>
  some y9
def G5 (F:Nat) (p0:api_Site) (p1:Int) (p2:Int) (p3:Int):Option Int :=
  (Di F p1).bind fun y2 =>
  (Fk F p0 p1 p2).bind fun y5 =>
  (ck (2*p2)).bind fun x6 =>
  (ck (x6+1)).bind fun x7 =>
  (ck (x7*p0.Step)).bind fun x8 =>
  (ck (x8*y2.s)).bind fun x9 =>
  (ck (2*y2.d)).bind fun a0 =>
  (ck (y5*y5)).bind fun a1 =>
  (ck (2*p3)).bind fun a2 =>
  (Hl F x9 a0).bind fun a5 =>
  (ck (p0.Z+a5)).bind fun a3 =>
  (Hl F a1 a2).bind fun a6 =>
  (ck (a3+a6)).bind fun a4 =>
  some a4
def Fl (F:Nat) (p0:api_Site) (p1:Int) (p2:Int):Option Int :=
  (Di F p1).bind fun y2 =>
  (ck (2*p2)).bind fun x4 =>
  (ck (x4+1)).bind fun x5 =>
  (ck (x5*p0.Step)).bind fun x6 =>
  (ck (x6*y2.c)).bind fun x7 =>
  (ck (2*y2.d)).bind fun x8 =>
  (L4 F x7 x8).bind fun y9 =>
  some y9
def G6 (F:Nat) (p0:api_Site) (p1:Int) (p2:Int) (p3:Int):Option Int :=
  (Di F p1).bind fun y2 =>
  (Fl F p0 p1 p2).bind fun y5 =>
  (ck (2*p2)).bind fun x6 =>
  (ck (x6+1)).bind fun x7 =>
  (ck (x7*p0.Step)).bind fun x8 =>
  (ck (x8*y2.s)).bind fun x9 =>
  (ck (2*y2.d)).bind fun a0 =>
  (ck (y5*y5)).bind fun a1 =>
  (ck (2*p3)).bind fun a2 =>
  (L4 F x9 a0).bind fun a5 =>
  (ck (p0.Z+a5)).bind fun a3 =>
  (L4 F a1 a2).bind fun a6 =>
  (ck (a3+a6)).bind fun a4 =>
  some a4
def Lg (F:Nat) (p0:api_Site) (p1:Int) (p2:api_Span) (p3:Int):Option (api_Span×Int) :=
  (beam_CheckSite F p0).bind fun y4 =>
  bif (y4 != 0) then (some ((api_Span.mk 0 0),y4)) else ((gd (((bif (!(A8 p1 0 256)) then true else (!(E4 p2)))==false&&true)) (ck (p0.Gates-1)) 0).bind fun x5 =>
  bif (bif (bif (!(A8 p1 0 256)) then true else (!(E4 p2))) then true else (!(A8 p3 0 x5))) then (some ((api_Span.mk 0 0),3)) else ((ck (p1-p0.Width)).bind fun x6 =>
  (ck (p1+p0.Width)).bind fun x7 =>
  (G5 F p0 x6 p3 p2.Hi).bind fun y9 =>
  (G6 F p0 x7 p3 p2.Lo).bind fun a0 =>
  some ((api_Span.mk y9 a0),0)))
def Ea (p0:mosaic_Node) (p1:mosaic_Key) (a0:(List api_Span)):Option ((List api_Span)×(List (mosaic_where×(List api_Span)))) :=
  some (a0,(upM p0.looks (mosaic_where.mk p1.Name p1.Tilt) a0))
def D3 (a0:(List api_Span)) (a2:Int) (k2:((List api_Span)→Int→Option ((List api_Span)×(List (mosaic_where×(List api_Span)))))) (a3:Int) (a4:Int):Option ((List api_Span)×(List (mosaic_where×(List api_Span)))) :=
  (apd 16 a0 ([(api_Span.mk a3 a4)])).bind fun a1 =>
  (ck (a2+1)).bind fun a5 =>
  k2 a1 a5
def E9 (F:Nat) (p0:mosaic_Node) (p1:mosaic_Key) (a4:((List Int)×Int)) (k2:((List api_Span)→Int→Option ((List api_Span)×(List (mosaic_where×(List api_Span)))))) (a1:(List api_Span)) (a0:Int):Option ((List api_Span)×(List (mosaic_where×(List api_Span)))) :=
  bif (decide (a0<((a4.1.length:Nat):Int))) then ((Cb a4.1 a0).bind fun a2 =>
  bif (decide (a2≥0)) then ((M9 a2 ((((lkM p0.radars p1.Name).getD (mosaic_Radar.mk (api_Site.mk ByteArray.empty 0 0 0 0 0 0 0) (api_Span.mk 0 0))).Site).Gates)).bind fun a5 =>
  (Lg F (api_Site.mk ((((lkM p0.radars p1.Name).getD (mosaic_Radar.mk (api_Site.mk ByteArray.empty 0 0 0 0 0 0 0) (api_Span.mk 0 0))).Site).Name) ((((lkM p0.radars p1.Name).getD (mosaic_Radar.mk (api_Site.mk ByteArray.empty 0 0 0 0 0 0 0) (api_Span.mk 0 0))).Site).X) ((((lkM p0.radars p1.Name).getD (mosaic_Radar.mk (api_Site.mk ByteArray.empty 0 0 0 0 0 0 0) (api_Span.mk 0 0))).Site).Y) ((((lkM p0.radars p1.Name).getD (mosaic_Radar.mk (api_Site.mk ByteArray.empty 0 0 0 0 0 0 0) (api_Span.mk 0 0))).Site).Z) ((((lkM p0.radars p1.Name).getD (mosaic_Radar.mk (api_Site.mk ByteArray.empty 0 0 0 0 0 0 0) (api_Span.mk 0 0))).Site).Rose) ((((lkM p0.radars p1.Name).getD (mosaic_Radar.mk (api_Site.mk ByteArray.empty 0 0 0 0 0 0 0) (api_Span.mk 0 0))).Site).Gates) ((((lkM p0.radars p1.Name).getD (mosaic_Radar.mk (api_Site.mk ByteArray.empty 0 0 0 0 0 0 0) (api_Span.mk 0 0))).Site).Step) ((((lkM p0.radars p1.Name).getD (mosaic_Radar.mk (api_Site.mk ByteArray.empty 0 0 0 0 0 0 0) (api_Span.mk 0 0))).Site).Width)) p1.Tilt p0.spec.Earth a5).bind fun a3 =>
  D3 a1 a0 k2 a3.1.Lo a3.1.Hi) else (D3 a1 a0 k2 1 0)) else (Ea p0 p1 a1)
def D4 (F:Nat) (p0:mosaic_Node) (p1:mosaic_Key) (a0:((List Int)×Int)):Nat→(List api_Span)→Int→Option ((List api_Span)×(List (mosaic_where×(List api_Span))))
  | 0,_,_=>none
  | n+1,a1,a2=>E9 F p0 p1 a0 (D4 F p0 p1 a0 n) a1 a2
def Fi (F:Nat) (p0:mosaic_Node) (p1:mosaic_Key):Option ((List api_Span)×(List (mosaic_where×(List api_Span)))) :=
  bif ((lkM p0.looks (mosaic_where.mk p1.Name p1.Tilt)).isSome) then (some (((lkM p0.looks (mosaic_where.mk p1.Name p1.Tilt)).getD []),p0.looks)) else ((K7 F (api_Site.mk ((((lkM p0.radars p1.Name).getD (mosaic_Radar.mk (api_Site.mk ByteArray.empty 0 0 0 0 0 0 0) (api_Span.mk 0 0))).Site).Name) ((((lkM p0.radars p1.Name).getD (mosaic_Radar.mk (api_Site.mk ByteArray.empty 0 0 0 0 0 0 0) (api_Span.mk 0 0))).Site).X) ((((lkM p0.radars p1.Name).getD (mosaic_Radar.mk (api_Site.mk ByteArray.empty 0 0 0 0 0 0 0) (api_Span.mk 0 0))).Site).Y) ((((lkM p0.radars p1.Name).getD (mosaic_Radar.mk (api_Site.mk ByteArray.empty 0 0 0 0 0 0 0) (api_Span.mk 0 0))).Site).Z) ((((lkM p0.radars p1.Name).getD (mosaic_Radar.mk (api_Site.mk ByteArray.empty 0 0 0 0 0 0 0) (api_Span.mk 0 0))).Site).Rose) ((((lkM p0.radars p1.Name).getD (mosaic_Radar.mk (api_Site.mk ByteArray.empty 0 0 0 0 0 0 0) (api_Span.mk 0 0))).Site).Gates) ((((lkM p0.radars p1.Name).getD (mosaic_Radar.mk (api_Site.mk ByteArray.empty 0 0 0 0 0 0 0) (api_Span.mk 0 0))).Site).Step) ((((lkM p0.radars p1.Name).getD (mosaic_Radar.mk (api_Site.mk ByteArray.empty 0 0 0 0 0 0 0) (api_Span.mk 0 0))).Site).Width)) p1.Tilt p0.spec.Grid).bind fun a0 =>
  D4 F p0 p1 a0 F ([]) 0)
def F6 (a0:(List (mosaic_where×(List api_Span)))) (a1:(List mosaic_used)):Option ((List mosaic_used)×(List (mosaic_where×(List api_Span)))) :=
  some (a1,a0)
def Dk (a2:Int) (k3:((List (mosaic_where×(List api_Span)))→Int→(List mosaic_used)→Option ((List mosaic_used)×(List (mosaic_where×(List api_Span)))))) (a0:(List (mosaic_where×(List api_Span)))) (a1:(List mosaic_used)):Option ((List mosaic_used)×(List (mosaic_where×(List api_Span)))) :=
  (ck (a2+1)).bind fun a3 =>
  k3 a0 a3 a1
def F3 (F:Nat) (p0:mosaic_Node) (a4:(List (mosaic_where×mosaic_Key))) (a5:(List mosaic_Key)) (k3:((List (mosaic_where×(List api_Span)))→Int→(List mosaic_used)→Option ((List mosaic_used)×(List (mosaic_where×(List api_Span)))))) (a2:(List (mosaic_where×(List api_Span)))) (a1:Int) (a3:(List mosaic_used)):Option ((List mosaic_used)×(List (mosaic_where×(List api_Span)))) :=
  bif (decide (a1<((a5.length:Nat):Int))) then ((Cb a5 a1).bind fun a0 =>
  bif (((((lkM a4 (mosaic_where.mk a0.Name a0.Tilt)).getD (mosaic_Key.mk ByteArray.empty 0 0)).Name)==a0.Name)&&(((((lkM a4 (mosaic_where.mk a0.Name a0.Tilt)).getD (mosaic_Key.mk ByteArray.empty 0 0)).Tilt:Int)==a0.Tilt)&&(((((lkM a4 (mosaic_where.mk a0.Name a0.Tilt)).getD (mosaic_Key.mk ByteArray.empty 0 0)).Time:Int)==a0.Time)&&true))) then ((Cb ((lkM p0.kept a0).getD []) 0).bind fun a8 =>
  (Fi F (mosaic_Node.mk p0.spec p0.radars p0.horizon p0.kept p0.count a2) a0).bind fun a6 =>
  (apd 80 a3 ([(mosaic_used.mk a0 a8 a6.1)])).bind fun a7 =>
  Dk a1 k3 a6.2 a7) else (Dk a1 k3 a2 a3)) else (F6 a2 a3)
def Dm (F:Nat) (p0:mosaic_Node) (a0:(List (mosaic_where×mosaic_Key))) (a1:(List mosaic_Key)):Nat→(List (mosaic_where×(List api_Span)))→Int→(List mosaic_used)→Option ((List mosaic_used)×(List (mosaic_where×(List api_Span))))
  | 0,_,_,_=>none
  | n+1,a2,a4,a3=>F3 F p0 a0 a1 (Dm F p0 a0 a1 n) a2 a4 a3
def F5 (F:Nat) (p0:mosaic_Node) (a0:(List (mosaic_where×mosaic_Key))):Option ((List mosaic_used)×(List (mosaic_where×(List api_Span)))) :=
  (E7 F p0).bind fun a1 =>
  Dm F p0 a0 a1 F p0.looks 0 ([])
def Dl (a1:Int) (k5:((List (mosaic_where×mosaic_Key))→Int→Option ((List mosaic_used)×(List (mosaic_where×(List api_Span)))))) (a0:(List (mosaic_where×mosaic_Key))):Option ((List mosaic_used)×(List (mosaic_where×(List api_Span)))) :=
  (ck (a1+1)).bind fun a2 =>
  k5 a0 a2
def F4 (F:Nat) (p0:mosaic_Node) (p1:Int) (a4:(List mosaic_Key)) (k5:((List (mosaic_where×mosaic_Key))→Int→Option ((List mosaic_used)×(List (mosaic_where×(List api_Span)))))) (a2:(List (mosaic_where×mosaic_Key))) (a1:Int):Option ((List mosaic_used)×(List (mosaic_where×(List api_Span)))) :=
  bif (decide (a1<((a4.length:Nat):Int))) then ((Cb a4 a1).bind fun a0 =>
  (gd (((((((lkM p0.kept a0).getD []).length:Nat):Int)==1)==true&&true)) (ck (a0.Time+((((lkM p0.radars a0.Name).getD (mosaic_Radar.mk (api_Site.mk ByteArray.empty 0 0 0 0 0 0 0) (api_Span.mk 0 0))).Offset).Hi))) 0).bind fun a3 =>
  (gd (((bif (((((lkM p0.kept a0).getD []).length:Nat):Int)==1) then (decide (a3≤p1)) else false)==true&&true)) (ck (p1-a0.Time)) 0).bind fun a5 =>
  (gd (((bif (((((lkM p0.kept a0).getD []).length:Nat):Int)==1) then (decide (a3≤p1)) else false)==true&&true)) (ck (a5-((((lkM p0.radars a0.Name).getD (mosaic_Radar.mk (api_Site.mk ByteArray.empty 0 0 0 0 0 0 0) (api_Span.mk 0 0))).Offset).Lo))) 0).bind fun a6 =>
  bif (bif (bif (((((lkM p0.kept a0).getD []).length:Nat):Int)==1) then (decide (a3≤p1)) else false) then (decide (a6≤p0.spec.Age)) else false) then (Dl a1 k5 (upM a2 (mosaic_where.mk a0.Name a0.Tilt) a0)) else (Dl a1 k5 a2)) else (F5 F p0 a2)
def Dn (F:Nat) (p0:mosaic_Node) (p1:Int) (a0:(List mosaic_Key)):Nat→(List (mosaic_where×mosaic_Key))→Int→Option ((List mosaic_used)×(List (mosaic_where×(List api_Span))))
  | 0,_,_=>none
  | n+1,a1,a2=>F4 F p0 p1 a0 (Dn F p0 p1 a0 n) a1 a2
def G8 (F:Nat) (p0:mosaic_Node) (p1:Int):Option ((List mosaic_used)×(List (mosaic_where×(List api_Span)))) :=
  (E7 F p0).bind fun a0 =>
  Dn F p0 p1 a0 F ([]:List (mosaic_where×mosaic_Key)) 0
def Ha (p0:api_Span):Bool :=
  decide (p0.Lo≤p0.Hi)
def Er (a1:((List mosaic_used)×(List (mosaic_where×(List api_Span))))) (a0:(List mosaic_Pixel)):Option ((List mosaic_Pixel)×Int×(List (mosaic_where×(List api_Span)))) :=
  some (a0,0,a1.2)
def Es (a1:Int) (k2:(Int→(List mosaic_Pixel)→Option ((List mosaic_Pixel)×Int×(List (mosaic_where×(List api_Span)))))) (a0:(List mosaic_Pixel)):Option ((List mosaic_Pixel)×Int×(List (mosaic_where×(List api_Span)))) :=
  (ck (a1+1)).bind fun a2 =>
  k2 a2 a0
def D7 (a3:Int) (a0:(List mosaic_Pixel)) (k2:(Int→(List mosaic_Pixel)→Option ((List mosaic_Pixel)×Int×(List (mosaic_where×(List api_Span)))))) (a4:Int) (a5:Int) (a2:ByteArray) (a6:Int) (a7:Int):Option ((List mosaic_Pixel)×Int×(List (mosaic_where×(List api_Span)))) :=
  (apd 48 a0 ([(mosaic_Pixel.mk (api_Span.mk a4 a5) (mosaic_Key.mk a2 a6 a7))])).bind fun a1 =>
  Es a3 k2 a1
def Et (a5:((List mosaic_used)×(List (mosaic_where×(List api_Span))))) (a1:Int) (a2:(List mosaic_Pixel)) (k2:(Int→(List mosaic_Pixel)→Option ((List mosaic_Pixel)×Int×(List (mosaic_where×(List api_Span)))))) (a4:Int):Option ((List mosaic_Pixel)×Int×(List (mosaic_where×(List api_Span)))) :=
  bif (decide (a4<0)) then (D7 a1 a2 k2 0 1000000 ByteArray.empty 0 0) else ((Cb a5.1 a4).bind fun a0 =>
  (Cb a0.vals a1).bind fun a3 =>
  D7 a1 a2 k2 a3.Lo a3.Hi a0.Key.Name a0.Key.Tilt a0.Key.Time)
def C9 (a0:Int) (k6:(Int→Int→Option ((List mosaic_Pixel)×Int×(List (mosaic_where×(List api_Span)))))) (a1:Int):Option ((List mosaic_Pixel)×Int×(List (mosaic_where×(List api_Span)))) :=
  (ck (a0+1)).bind fun a2 =>
  k6 a1 a2
def Ep (F:Nat) (a5:((List mosaic_used)×(List (mosaic_where×(List api_Span))))) (a2:Int) (a6:(List mosaic_Pixel)) (k2:(Int→(List mosaic_Pixel)→Option ((List mosaic_Pixel)×Int×(List (mosaic_where×(List api_Span)))))) (k6:(Int→Int→Option ((List mosaic_Pixel)×Int×(List (mosaic_where×(List api_Span)))))) (a4:Int) (a0:Int):Option ((List mosaic_Pixel)×Int×(List (mosaic_where×(List api_Span)))) :=
  bif (decide (a0<((a5.1.length:Nat):Int))) then ((Cb a5.1 a0).bind fun a1 =>
  (Cb a1.bands a2).bind fun a7 =>
  bif (!(Ha a7)) then (C9 a0 k6 a4) else (bif (decide (a4<0)) then (C9 a0 k6 a0) else ((Cb a5.1 a4).bind fun a3 =>
  (Cb a1.bands a2).bind fun a8 =>
  (Cb a3.bands a2).bind fun a9 =>
  (Cb a1.bands a2).bind fun aA =>
  (Cb a3.bands a2).bind fun aB =>
  (Gq F ([(Aa a8.Hi a9.Hi),(Aa aA.Lo aB.Lo),(Aa a3.Key.Time a1.Key.Time),(Bm a1.Key.Name a3.Key.Name),(Aa a1.Key.Tilt a3.Key.Tilt)])).bind fun aC =>
  bif (decide (aC<0)) then (C9 a0 k6 a0) else (C9 a0 k6 a4)))) else (Et a5 a2 a6 k2 a4)
def D9 (F:Nat) (a2:((List mosaic_used)×(List (mosaic_where×(List api_Span))))) (a1:Int) (a0:(List mosaic_Pixel)) (k2:(Int→(List mosaic_Pixel)→Option ((List mosaic_Pixel)×Int×(List (mosaic_where×(List api_Span)))))):Nat→Int→Int→Option ((List mosaic_Pixel)×Int×(List (mosaic_where×(List api_Span))))
  | 0,_,_=>none
  | n+1,a3,a4=>Ep F a2 a1 a0 k2 (D9 F a2 a1 a0 k2 n) a3 a4
def Eo (F:Nat) (a2:((List mosaic_used)×(List (mosaic_where×(List api_Span))))) (a3:Int) (k2:(Int→(List mosaic_Pixel)→Option ((List mosaic_Pixel)×Int×(List (mosaic_where×(List api_Span)))))) (a1:Int) (a0:(List mosaic_Pixel)):Option ((List mosaic_Pixel)×Int×(List (mosaic_where×(List api_Span)))) :=
  bif (decide (a1<a3)) then (D9 F a2 a1 a0 k2 F (-1) 0) else (Er a2 a0)
def D8 (F:Nat) (a1:((List mosaic_used)×(List (mosaic_where×(List api_Span))))) (a0:Int):Nat→Int→(List mosaic_Pixel)→Option ((List mosaic_Pixel)×Int×(List (mosaic_where×(List api_Span))))
  | 0,_,_=>none
  | n+1,a3,a2=>Eo F a1 a0 (D8 F a1 a0 n) a3 a2
def Ft (F:Nat) (p0:mosaic_Node) (p1:Int):Option ((List mosaic_Pixel)×Int×(List (mosaic_where×(List api_Span)))) :=
  (F2 F p0 p1).bind fun a0 =>
  bif (a0 != 0) then (some (([]:(List mosaic_Pixel)),a0,p0.looks)) else ((G8 F p0 p1).bind fun a2 =>
  (ck (p0.spec.Grid.Wide*p0.spec.Grid.High)).bind fun a1 =>
  D8 F a2 a1 F 0 ([]))
def A1 (p0:Int):api_Span :=
  (api_Span.mk p0 p0)
def law11_S:mosaic_Spec :=
  (mosaic_Spec.mk (api_Grid.mk (-2000) (-1000) 1000 4 2) (A1 8000000) ([(mosaic_Radar.mk (api_Site.mk (⟨#[97]⟩:ByteArray) (-1500) (-500) 100 1 3 1000 0) (api_Span.mk 0 0)),(mosaic_Radar.mk (api_Site.mk (⟨#[98]⟩:ByteArray) 1500 (-500) 100 1 3 1000 0) (api_Span.mk 5 10))]) 600)
def Fs (p0:ByteArray) (p1:Int) (a0:(List api_Span)):Option mosaic_Message :=
  some (mosaic_Message.mk (mosaic_Key.mk p0 0 p1) a0)
def Fq (p0:ByteArray) (p1:Int) (p2:Int) (k2:((List api_Span)→Int→Option mosaic_Message)) (a0:(List api_Span)) (a1:Int):Option mosaic_Message :=
  bif (decide (a1<8)) then ((apd 16 a0 ([(A1 p2)])).bind fun a2 =>
  (ck (a1+1)).bind fun a3 =>
  k2 a2 a3) else (Fs p0 p1 a0)
def Eh (p0:ByteArray) (p1:Int) (p2:Int):Nat→(List api_Span)→Int→Option mosaic_Message
  | 0,_,_=>none
  | n+1,a0,a1=>Fq p0 p1 p2 (Eh p0 p1 p2 n) a0 a1
def Fz (F:Nat) (p0:ByteArray) (p1:Int) (p2:Int):Option mosaic_Message :=
  Eh p0 p1 p2 F ([]) 0
def H5 (F:Nat):Option Bool :=
  (F1 F (mosaic_Spec.mk (api_Grid.mk law11_S.Grid.X law11_S.Grid.Y law11_S.Grid.Size law11_S.Grid.Wide law11_S.Grid.High) (api_Span.mk law11_S.Earth.Lo law11_S.Earth.Hi) law11_S.Radars law11_S.Age)).bind fun y7 =>
  exc y7 (fun a7=>bif (a7 != 0) then (some false) else (none)) (fun a2=>bif (a2.2 != 0) then (some false) else ((Fz F (⟨#[97]⟩:ByteArray) 100 5).bind fun a8 =>
  (Bn F (mosaic_Node.mk (mosaic_Spec.mk (api_Grid.mk a2.1.spec.Grid.X a2.1.spec.Grid.Y a2.1.spec.Grid.Size a2.1.spec.Grid.Wide a2.1.spec.Grid.High) (api_Span.mk a2.1.spec.Earth.Lo a2.1.spec.Earth.Hi) a2.1.spec.Radars a2.1.spec.Age) a2.1.radars a2.1.horizon a2.1.kept a2.1.count a2.1.looks) a8).bind fun a0 =>
  (Fz F (⟨#[98]⟩:ByteArray) 100 7).bind fun a9 =>
  (Bn F (mosaic_Node.mk (mosaic_Spec.mk (api_Grid.mk a0.2.2.spec.Grid.X a0.2.2.spec.Grid.Y a0.2.2.spec.Grid.Size a0.2.2.spec.Grid.Wide a0.2.2.spec.Grid.High) (api_Span.mk a0.2.2.spec.Earth.Lo a0.2.2.spec.Earth.Hi) a0.2.2.spec.Radars a0.2.2.spec.Age) a0.2.2.radars a0.2.2.horizon a0.2.2.kept a0.2.2.count a0.2.2.looks) a9).bind fun a1 =>
  (Ft F (mosaic_Node.mk (mosaic_Spec.mk (api_Grid.mk a1.2.2.spec.Grid.X a1.2.2.spec.Grid.Y a1.2.2.spec.Grid.Size a1.2.2.spec.Grid.Wide a1.2.2.spec.Grid.High) (api_Span.mk a1.2.2.spec.Earth.Lo a1.2.2.spec.Earth.Hi) a1.2.2.spec.Radars a1.2.2.spec.Age) a1.2.2.radars a1.2.2.horizon a1.2.2.kept a1.2.2.count a1.2.2.looks) 110).bind fun a3 =>
  (gd (((bif (bif (bif (bif (bif a0.1 then a1.1 else false) then (a0.2.1==0) else false) then (a1.2.1==0) else false) then (a3.2.1==0) else false) then (((a3.1.length:Nat):Int)==8) else false)==true&&true)) (Cb a3.1 0) default).bind fun a4 =>
  (gd (((bif (bif (bif (bif (bif (bif a0.1 then a1.1 else false) then (a0.2.1==0) else false) then (a1.2.1==0) else false) then (a3.2.1==0) else false) then (((a3.1.length:Nat):Int)==8) else false) then (((a4.Value_.Lo:Int)==(A1 5).Lo)&&(((a4.Value_.Hi:Int)==(A1 5).Hi)&&true)) else false)==true&&true)) (Cb a3.1 2) default).bind fun a5 =>
  (gd (((bif (bif (bif (bif (bif (bif (bif a0.1 then a1.1 else false) then (a0.2.1==0) else false) then (a1.2.1==0) else false) then (a3.2.1==0) else false) then (((a3.1.length:Nat):Int)==8) else false) then (((a4.Value_.Lo:Int)==(A1 5).Lo)&&(((a4.Value_.Hi:Int)==(A1 5).Hi)&&true)) else false) then ((a5.Key.Name==(⟨#[97]⟩:ByteArray))&&(((a5.Key.Tilt:Int)==0)&&(((a5.Key.Time:Int)==100)&&true))) else false)==true&&true)) (Cb a3.1 3) default).bind fun a6 =>
  some (bif (bif (bif (bif (bif (bif (bif (bif a0.1 then a1.1 else false) then (a0.2.1==0) else false) then (a1.2.1==0) else false) then (a3.2.1==0) else false) then (((a3.1.length:Nat):Int)==8) else false) then (((a4.Value_.Lo:Int)==(A1 5).Lo)&&(((a4.Value_.Hi:Int)==(A1 5).Hi)&&true)) else false) then ((a5.Key.Name==(⟨#[97]⟩:ByteArray))&&(((a5.Key.Tilt:Int)==0)&&(((a5.Key.Time:Int)==100)&&true))) else false) then ((((a6.Value_.Lo:Int)==(A1 7).Lo)&&(((a6.Value_.Hi:Int)==(A1 7).Hi)&&true))&&(((a6.Key.Name==(⟨#[98]⟩:ByteArray))&&(((a6.Key.Tilt:Int)==0)&&(((a6.Key.Time:Int)==100)&&true)))&&true)) else false)))
def Dc (a0:(List mosaic_Message)):Option (List mosaic_Message) :=
  some a0
def Dd (a1:Int) (k2:(Int→(List mosaic_Message)→Option (List mosaic_Message))) (a0:(List mosaic_Message)):Option (List mosaic_Message) :=
  (ck (a1+1)).bind fun a2 =>
  k2 a2 a0
def Db (F:Nat) (p0:mosaic_Node) (a5:Int) (k2:(Int→(List mosaic_Message)→Option (List mosaic_Message))) (a0:mosaic_Key) (k4:(Int→(List mosaic_Message)→Option (List mosaic_Message))) (a1:Int) (a2:(List mosaic_Message)):Option (List mosaic_Message) :=
  bif (decide (a1<((((lkM p0.kept a0).getD []).length:Nat):Int))) then ((Cb ((lkM p0.kept a0).getD []) a1).bind fun a4 =>
  (As F a4).bind fun a7 =>
  (apd 56 a2 ([(mosaic_Message.mk a0 a7)])).bind fun a3 =>
  (ck (a1+1)).bind fun a6 =>
  k4 a6 a3) else (Dd a5 k2 a2)
def Ca (F:Nat) (p0:mosaic_Node) (a1:Int) (k2:(Int→(List mosaic_Message)→Option (List mosaic_Message))) (a0:mosaic_Key):Nat→Int→(List mosaic_Message)→Option (List mosaic_Message)
  | 0,_,_=>none
  | n+1,a3,a2=>Db F p0 a1 k2 a0 (Ca F p0 a1 k2 a0 n) a3 a2
def Da (F:Nat) (p0:mosaic_Node) (a2:(List mosaic_Key)) (k2:(Int→(List mosaic_Message)→Option (List mosaic_Message))) (a0:Int) (a1:(List mosaic_Message)):Option (List mosaic_Message) :=
  bif (decide (a0<((a2.length:Nat):Int))) then ((Cb a2 a0).bind fun a3 =>
  Ca F p0 a0 k2 a3 F 0 a1) else (Dc a1)
def Bp (F:Nat) (p0:mosaic_Node) (a0:(List mosaic_Key)):Nat→Int→(List mosaic_Message)→Option (List mosaic_Message)
  | 0,_,_=>none
  | n+1,a2,a1=>Da F p0 a0 (Bp F p0 a0 n) a2 a1
def Bx (F:Nat) (p0:mosaic_Node):Option (List mosaic_Message) :=
  (E7 F p0).bind fun a0 =>
  Bp F p0 a0 F 0 ([])
def Bh:Option Bool :=
  some true
def B4 (p0:(List mosaic_Radar)) (p1:(List mosaic_Radar)) (k2:(Int→Option Bool)) (a2:Int):Option Bool :=
  bif (decide (a2<((p0.length:Nat):Int))) then ((Cb p0 a2).bind fun a0 =>
  (Cb p1 a2).bind fun a1 =>
  bif (!(((a0.Site.Name==a1.Site.Name)&&(((a0.Site.X:Int)==a1.Site.X)&&(((a0.Site.Y:Int)==a1.Site.Y)&&(((a0.Site.Z:Int)==a1.Site.Z)&&(((a0.Site.Rose:Int)==a1.Site.Rose)&&(((a0.Site.Gates:Int)==a1.Site.Gates)&&(((a0.Site.Step:Int)==a1.Site.Step)&&(((a0.Site.Width:Int)==a1.Site.Width)&&true))))))))&&((((a0.Offset.Lo:Int)==a1.Offset.Lo)&&(((a0.Offset.Hi:Int)==a1.Offset.Hi)&&true))&&true))) then (some false) else ((ck (a2+1)).bind fun a3 =>
  k2 a3)) else (Bh)
def Ar (p0:(List mosaic_Radar)) (p1:(List mosaic_Radar)):Nat→Int→Option Bool
  | 0,_=>none
  | n+1,a0=>B4 p0 p1 (Ar p0 p1 n) a0
def Ay (F:Nat) (p0:(List mosaic_Radar)) (p1:(List mosaic_Radar)):Option Bool :=
  bif (((p0.length:Nat):Int) != ((p1.length:Nat):Int)) then (some false) else (Ar p0 p1 F 0)
def Ek (F:Nat) (p0:mosaic_Spec) (p1:mosaic_Spec):Option Bool :=
  (gd (((bif (bif (((p0.Grid.X:Int)==p1.Grid.X)&&(((p0.Grid.Y:Int)==p1.Grid.Y)&&(((p0.Grid.Size:Int)==p1.Grid.Size)&&(((p0.Grid.Wide:Int)==p1.Grid.Wide)&&(((p0.Grid.High:Int)==p1.Grid.High)&&true))))) then (((p0.Earth.Lo:Int)==p1.Earth.Lo)&&(((p0.Earth.Hi:Int)==p1.Earth.Hi)&&true)) else false) then (p0.Age==p1.Age) else false)==true&&true)) (Ay F p0.Radars p1.Radars) default).bind fun y9 =>
  some (bif (bif (bif (((p0.Grid.X:Int)==p1.Grid.X)&&(((p0.Grid.Y:Int)==p1.Grid.Y)&&(((p0.Grid.Size:Int)==p1.Grid.Size)&&(((p0.Grid.Wide:Int)==p1.Grid.Wide)&&(((p0.Grid.High:Int)==p1.Grid.High)&&true))))) then (((p0.Earth.Lo:Int)==p1.Earth.Lo)&&(((p0.Earth.Hi:Int)==p1.Earth.Hi)&&true)) else false) then (p0.Age==p1.Age) else false) then y9 else false)
def Br (p0:mosaic_Node) (a5:(Int×mosaic_Node)) (a8:Int) (a9:Int) (a3:Int) (a0:Int) (aA:Int) (aB:Int) (aC:Int) (aD:Int) (aE:Int) (a6:(List mosaic_Radar)) (aF:Int) (a2:(List (mosaic_Key×(List (List api_Span))))) (a1:(List (ByteArray×mosaic_Radar))) (a7:(List (mosaic_where×(List api_Span)))):Option (Int×Int×mosaic_Node) :=
  bif (decide (a0>256)) then (some (0,13,(mosaic_Node.mk p0.spec a1 p0.horizon p0.kept p0.count p0.looks))) else ((ck (a0-a5.2.count)).bind fun a4 =>
  some (a4,0,(mosaic_Node.mk p0.spec a1 a3 a2 a0 p0.looks)))
def Bs (a4:Int) (k2:(Int→Int→Int→Int→Int→Int→Int→Int→Int→(List mosaic_Radar)→Int→(List (mosaic_Key×(List (List api_Span))))→(List (ByteArray×mosaic_Radar))→(List (mosaic_where×(List api_Span)))→Int→Option (Int×Int×mosaic_Node))) (a5:Int) (a6:Int) (a7:Int) (a8:Int) (a9:Int) (aA:Int) (aB:Int) (aC:Int) (aD:Int) (a0:(List mosaic_Radar)) (aE:Int) (a1:(List (mosaic_Key×(List (List api_Span))))) (a2:(List (ByteArray×mosaic_Radar))) (a3:(List (mosaic_where×(List api_Span)))):Option (Int×Int×mosaic_Node) :=
  (ck (a4+1)).bind fun aF =>
  k2 a5 a6 a7 a8 a9 aA aB aC aD a0 aE a1 a2 a3 aF
def Cs (F:Nat) (p0:mosaic_Node) (aI:(Int×mosaic_Node)) (aH:(List mosaic_Message)) (k2:(Int→Int→Int→Int→Int→Int→Int→Int→Int→(List mosaic_Radar)→Int→(List (mosaic_Key×(List (List api_Span))))→(List (ByteArray×mosaic_Radar))→(List (mosaic_where×(List api_Span)))→Int→Option (Int×Int×mosaic_Node))) (a6:Int) (a7:Int) (a1:Int) (a8:Int) (a9:Int) (aA:Int) (aB:Int) (aC:Int) (aD:Int) (a2:(List mosaic_Radar)) (aE:Int) (a3:(List (mosaic_Key×(List (List api_Span))))) (a4:(List (ByteArray×mosaic_Radar))) (a5:(List (mosaic_where×(List api_Span)))) (aF:Int):Option (Int×Int×mosaic_Node) :=
  bif (decide (aF<((aH.length:Nat):Int))) then ((Cb aH aF).bind fun aG =>
  (Ba F (mosaic_Node.mk (mosaic_Spec.mk (api_Grid.mk a6 a7 a9 aA aB) (api_Span.mk aC aD) a2 aE) a4 a1 a3 a8 a5) aG).bind fun aJ =>
  bif (bif (!aJ.2) then (decide (aG.Key.Time≥a1)) else false) then ((C0 F (mosaic_Node.mk (mosaic_Spec.mk (api_Grid.mk a6 a7 a9 aA aB) (api_Span.mk aC aD) a2 aE) a4 a1 a3 a8 a5) aG).bind fun a0 =>
  Bs aF k2 a0.spec.Grid.X a0.spec.Grid.Y a0.horizon a0.count a0.spec.Grid.Size a0.spec.Grid.Wide a0.spec.Grid.High a0.spec.Earth.Lo a0.spec.Earth.Hi a0.spec.Radars a0.spec.Age a0.kept a0.radars a0.looks) else (Bs aF k2 a6 a7 a1 a8 a9 aA aB aC aD a2 aE a3 a4 a5)) else (Br p0 aI a6 a7 a1 a8 a9 aA aB aC aD a2 aE a3 a4 a5)
def Bl (F:Nat) (p0:mosaic_Node) (a1:(Int×mosaic_Node)) (a0:(List mosaic_Message)):Nat→Int→Int→Int→Int→Int→Int→Int→Int→Int→(List mosaic_Radar)→Int→(List (mosaic_Key×(List (List api_Span))))→(List (ByteArray×mosaic_Radar))→(List (mosaic_where×(List api_Span)))→Int→Option (Int×Int×mosaic_Node)
  | 0,_,_,_,_,_,_,_,_,_,_,_,_,_,_,_=>none
  | n+1,a6,a7,a8,a9,aA,aB,aC,aD,aE,a2,aF,a3,a4,a5,aG=>Cs F p0 a1 a0 (Bl F p0 a1 a0 n) a6 a7 a8 a9 aA aB aC aD aE a2 aF a3 a4 a5 aG
def Cn (F:Nat) (p0:mosaic_Node) (p1:mosaic_Node):Option (Int×Int×mosaic_Node) :=
  (Bg F p0).bind fun a2 =>
  bif a2 then (some (0,1,p0)) else ((Bg F p1).bind fun a3 =>
  bif a3 then (some (0,1,p0)) else ((Ek F p0.spec p1.spec).bind fun a4 =>
  bif (!a4) then (some (0,11,p0)) else ((M3 F p0).bind fun a1 =>
  (Fa F (mosaic_Node.mk a1.spec p0.radars a1.horizon a1.kept a1.count a1.looks) (if p1.horizon>p0.horizon then p1.horizon else p0.horizon)).bind fun a0 =>
  (Bx F p1).bind fun a5 =>
  Bl F p0 a0 a5 F a0.2.spec.Grid.X a0.2.spec.Grid.Y a0.2.horizon a0.2.count a0.2.spec.Grid.Size a0.2.spec.Grid.Wide a0.2.spec.Grid.High a0.2.spec.Earth.Lo a0.2.spec.Earth.Hi a0.2.spec.Radars a0.2.spec.Age a0.2.kept a0.2.radars a0.2.looks 0)))
def E5 (l:List mosaic_Key):List (mosaic_Key×Bool):=l.foldl (fun B k=>upM B k true) []
def Qj (p0:mosaic_Node) (G:List (mosaic_Key×Bool)) (x:mosaic_Message):Bool:=!((lkM G x.Key).getD false&&((((lkM p0.kept x.Key).getD []).length:Int)==1))
def Cm (F:Nat) (p0:mosaic_Node) (p1:List mosaic_Key):Option (List mosaic_Message×Int) :=
  if 256<p1.length then some ([],9) else (Bx F p0).bind fun l=>if l.length≤1000000 then some (l.filter (Qj p0 (E5 p1)),0) else none
def Cq:Option Int :=
  some 0
def Cp (p1:mosaic_Message) (k2:(Int→Option Int)) (a0:Int):Option Int :=
  bif (decide (a0<((p1.Vals.length:Nat):Int))) then ((Cb p1.Vals a0).bind fun a1 =>
  bif (!(Bj a1 0 1000000)) then (some 3) else ((ck (a0+1)).bind fun a2 =>
  k2 a2)) else (Cq)
def Bf (p1:mosaic_Message):Nat→Int→Option Int
  | 0,_=>none
  | n+1,a0=>Cp p1 (Bf p1 n) a0
def C1 (F:Nat) (p0:mosaic_Node) (p1:mosaic_Message):Option Int :=
  bif (!((lkM p0.radars p1.Key.Name).isSome)) then (some 4) else (bif (bif (!(Az p1.Key.Tilt 0 256)) then true else (!(Az p1.Key.Time 0 4294967296))) then (some 3) else ((ck (p0.spec.Grid.Wide*p0.spec.Grid.High)).bind fun a0 =>
  bif (((p1.Vals.length:Nat):Int) != a0) then (some 11) else (Bf p1 F 0)))
def Bz (F:Nat) (p0:mosaic_Node) (p1:mosaic_Message):Option (Int×Bool) :=
  (Ai F ((lkM p0.kept p1.Key).getD []) p1.Vals).bind fun a0 =>
  some (a0.1,a0.2)
def Ct (F:Nat) (p0:mosaic_Node) (p1:mosaic_Message):Option mosaic_Node :=
  (Bz F p0 p1).bind fun a1 =>
  (B3 F ((lkM p0.kept p1.Key).getD [])).bind fun a2 =>
  (As F p1.Vals).bind fun a3 =>
  (Ec F a2 a1.1 ([a3])).bind fun a4 =>
  (ck (p0.count+1)).bind fun a0 =>
  some (mosaic_Node.mk p0.spec p0.radars p0.horizon (upM p0.kept p1.Key a4) a0 p0.looks)
def Aq (F:Nat) (p0:mosaic_Node) (p1:mosaic_Message):Option (Bool×Int×mosaic_Node) :=
  (Bg F p0).bind fun a1 =>
  bif a1 then (some (false,1,p0)) else ((C1 F p0 p1).bind fun a0 =>
  bif (a0 != 0) then (some (false,a0,p0)) else (bif (decide (p1.Key.Time<p0.horizon)) then (some (false,17,p0)) else ((Bz F p0 p1).bind fun a2 =>
  bif a2.2 then (some (false,0,p0)) else (bif (decide (p0.count≥256)) then (some (false,13,p0)) else ((Ct F p0 p1).bind fun a3 =>
  some (true,0,a3))))))
def C5 (F:Nat) (a0:(Int×Int×mosaic_Node)):Option Bool :=
  (mkI 32 257 (mosaic_Key.mk ByteArray.empty 0 0)).bind fun a2 =>
  (Cm F (mosaic_Node.mk (mosaic_Spec.mk (api_Grid.mk a0.2.2.spec.Grid.X a0.2.2.spec.Grid.Y a0.2.2.spec.Grid.Size a0.2.2.spec.Grid.Wide a0.2.2.spec.Grid.High) (api_Span.mk a0.2.2.spec.Earth.Lo a0.2.2.spec.Earth.Hi) a0.2.2.spec.Radars a0.2.2.spec.Age) a0.2.2.radars a0.2.2.horizon a0.2.2.kept a0.2.2.count a0.2.2.looks) a2).bind fun a1 =>
  (gd (((a1.2==9)==true&&true)) (H5 F) default).bind fun a3 =>
  some (bif (a1.2==9) then a3 else false)
def Cj (F:Nat) (p0:Int) (a6:Int) (a7:Int) (a8:Int) (a9:Int) (aA:Int) (aB:Int) (aC:Int) (aD:Int) (aE:Int) (a2:(List mosaic_Radar)) (aF:Int) (aL:Int) (aM:Int) (aN:Int) (aO:Int) (aP:Int) (aQ:Int) (aR:Int) (aS:Int) (aT:Int) (aH:(List mosaic_Radar)) (aU:Int) (a3:(List (ByteArray×mosaic_Radar))) (a4:(List (mosaic_Key×(List (List api_Span))))) (a5:(List (mosaic_where×(List api_Span)))) (aI:(List (ByteArray×mosaic_Radar))) (aJ:(List (mosaic_Key×(List (List api_Span))))) (aK:(List (mosaic_where×(List api_Span)))):Option Bool :=
  (ck p0).bind fun aV =>
  (M9 aV 301).bind fun a0 =>
  (Cm F (mosaic_Node.mk (mosaic_Spec.mk (api_Grid.mk a6 a7 aA aB aC) (api_Span.mk aD aE) a2 aF) a3 a8 a4 a9 a5) ([]:(List mosaic_Key))).bind fun aG =>
  bif (bif (aG.2 != 0) then true else (((aG.1.length:Nat):Int) != (if 256<a0 then 256 else a0))) then (some false) else ((Cn F (mosaic_Node.mk (mosaic_Spec.mk (api_Grid.mk a6 a7 aA aB aC) (api_Span.mk aD aE) a2 aF) a3 a8 a4 a9 a5) (mosaic_Node.mk (mosaic_Spec.mk (api_Grid.mk aL aM aP aQ aR) (api_Span.mk aS aT) aH aU) aI aN aJ aO aK)).bind fun a1 =>
  (Ku (if 256<a0 then 256 else a0) 2).bind fun aW =>
  (ck ((if 256<a0 then 256 else a0)+aW)).bind fun aX =>
  bif (decide (aX>256)) then (bif (bif (a1.1 != 0) then true else (a1.2.1 != 13)) then (some false) else (C5 F a1)) else ((Ku (if 256<a0 then 256 else a0) 2).bind fun aY =>
  bif (bif (a1.1 != aY) then true else (a1.2.1 != 0)) then (some false) else (C5 F a1)))
def C7 (F:Nat) (aA:Int) (aB:Int) (aC:Int) (aD:Int) (aE:Int) (aF:Int) (aG:Int) (aH:Int) (aI:Int) (a1:(List mosaic_Radar)) (aJ:Int) (a2:(List (ByteArray×mosaic_Radar))) (a3:(List (mosaic_Key×(List (List api_Span))))) (a4:(List (mosaic_where×(List api_Span)))) (aK:Int) (k3:(Int→Int→Int→Int→Int→Int→Int→Int→Int→(List mosaic_Radar)→Int→Int→Int→Int→Int→Int→Int→Int→Int→Int→(List mosaic_Radar)→Int→(List (ByteArray×mosaic_Radar))→(List (mosaic_Key×(List (List api_Span))))→(List (mosaic_where×(List api_Span)))→(List (ByteArray×mosaic_Radar))→(List (mosaic_Key×(List (List api_Span))))→(List (mosaic_where×(List api_Span)))→Int→Option Bool)) (aL:Int) (aM:Int) (aN:Int) (aO:Int) (aP:Int) (aQ:Int) (aR:Int) (aS:Int) (aT:Int) (aU:Int) (a5:(List mosaic_Radar)) (aV:Int) (a6:(List (ByteArray×mosaic_Radar))) (a7:(List (mosaic_Key×(List (List api_Span))))) (a8:(List (mosaic_where×(List api_Span)))) (a9:(List api_Span)):Option Bool :=
  (Aq F (mosaic_Node.mk (mosaic_Spec.mk (api_Grid.mk aA aB aE aF aG) (api_Span.mk aH aI) a1 aJ) a2 aC a3 aD a4) (mosaic_Message.mk (mosaic_Key.mk (⟨#[97]⟩:ByteArray) 0 aL) a9)).bind fun a0 =>
  (ck (aK+1)).bind fun aW =>
  k3 aM aN aO aP aQ aR aS aT aU a5 aV a0.2.2.spec.Grid.X a0.2.2.spec.Grid.Y a0.2.2.horizon a0.2.2.count a0.2.2.spec.Grid.Size a0.2.2.spec.Grid.Wide a0.2.2.spec.Grid.High a0.2.2.spec.Earth.Lo a0.2.2.spec.Earth.Hi a0.2.2.spec.Radars a0.2.2.spec.Age a6 a7 a8 a0.2.2.radars a0.2.2.kept a0.2.2.looks aW
def C6 (F:Nat) (a9:Int) (aA:Int) (aB:Int) (aC:Int) (aD:Int) (aE:Int) (aF:Int) (aG:Int) (aH:Int) (a1:(List mosaic_Radar)) (aI:Int) (a2:(List (ByteArray×mosaic_Radar))) (a3:(List (mosaic_Key×(List (List api_Span))))) (a4:(List (mosaic_where×(List api_Span)))) (a0:Int) (k3:(Int→Int→Int→Int→Int→Int→Int→Int→Int→(List mosaic_Radar)→Int→Int→Int→Int→Int→Int→Int→Int→Int→Int→(List mosaic_Radar)→Int→(List (ByteArray×mosaic_Radar))→(List (mosaic_Key×(List (List api_Span))))→(List (mosaic_where×(List api_Span)))→(List (ByteArray×mosaic_Radar))→(List (mosaic_Key×(List (List api_Span))))→(List (mosaic_where×(List api_Span)))→Int→Option Bool)) (aJ:Int) (aK:Int) (aL:Int) (aM:Int) (aN:Int) (aO:Int) (aP:Int) (aQ:Int) (aR:Int) (aS:Int) (a5:(List mosaic_Radar)) (aT:Int) (a6:(List (ByteArray×mosaic_Radar))) (a7:(List (mosaic_Key×(List (List api_Span))))) (a8:(List (mosaic_where×(List api_Span)))):Option Bool :=
  (M9 a0 2).bind fun aV =>
  bif (aV==1) then ((ck (1000+a0)).bind fun aW =>
  (Cb ([(A1 a0)]) 0).bind fun aX =>
  (Rx ([(A1 a0)]) 0 (A1 aW)).bind fun aU =>
  C7 F a9 aA aB aC aD aE aF aG aH a1 aI a2 a3 a4 a0 k3 aJ aK aL aM aN aO aP aQ aR aS a5 aT a6 a7 a8 aU) else (C7 F a9 aA aB aC aD aE aF aG aH a1 aI a2 a3 a4 a0 k3 aJ aK aL aM aN aO aP aQ aR aS a5 aT a6 a7 a8 ([(A1 a0)]))
def D6 (F:Nat) (p0:Int) (p1:Int) (p2:Bool) (k3:(Int→Int→Int→Int→Int→Int→Int→Int→Int→(List mosaic_Radar)→Int→Int→Int→Int→Int→Int→Int→Int→Int→Int→(List mosaic_Radar)→Int→(List (ByteArray×mosaic_Radar))→(List (mosaic_Key×(List (List api_Span))))→(List (mosaic_where×(List api_Span)))→(List (ByteArray×mosaic_Radar))→(List (mosaic_Key×(List (List api_Span))))→(List (mosaic_where×(List api_Span)))→Int→Option Bool)) (aM:Int) (aN:Int) (aO:Int) (aP:Int) (aQ:Int) (aR:Int) (aS:Int) (aT:Int) (aU:Int) (aI:(List mosaic_Radar)) (aV:Int) (a8:Int) (a9:Int) (aA:Int) (aB:Int) (aC:Int) (aD:Int) (aE:Int) (aF:Int) (aG:Int) (a4:(List mosaic_Radar)) (aH:Int) (aJ:(List (ByteArray×mosaic_Radar))) (aK:(List (mosaic_Key×(List (List api_Span))))) (aL:(List (mosaic_where×(List api_Span)))) (a5:(List (ByteArray×mosaic_Radar))) (a6:(List (mosaic_Key×(List (List api_Span))))) (a7:(List (mosaic_where×(List api_Span)))) (a2:Int):Option Bool :=
  (ck p0).bind fun aW =>
  (M9 aW 301).bind fun aX =>
  bif (decide (a2<aX)) then ((ck p1).bind fun aY =>
  (M9 aY 400).bind fun aZ =>
  (ck (1+aZ)).bind fun b0 =>
  (M9 a2 b0).bind fun a3 =>
  (Aq F (mosaic_Node.mk (mosaic_Spec.mk (api_Grid.mk aM aN aQ aR aS) (api_Span.mk aT aU) aI aV) aJ aO aK aP aL) (mosaic_Message.mk (mosaic_Key.mk (⟨#[97]⟩:ByteArray) 0 a3) ([(A1 a2)]))).bind fun a0 =>
  bif (bif (bif (!(a0.1==(decide (a2<256)))) then true else (!((a0.2.1==0)==a0.1))) then true else (bif (!a0.1) then (a0.2.1 != 13) else false)) then (some false) else (bif p2 then ((Aq F (mosaic_Node.mk (mosaic_Spec.mk (api_Grid.mk a0.2.2.spec.Grid.X a0.2.2.spec.Grid.Y a0.2.2.spec.Grid.Size a0.2.2.spec.Grid.Wide a0.2.2.spec.Grid.High) (api_Span.mk a0.2.2.spec.Earth.Lo a0.2.2.spec.Earth.Hi) a0.2.2.spec.Radars a0.2.2.spec.Age) a0.2.2.radars a0.2.2.horizon a0.2.2.kept a0.2.2.count a0.2.2.looks) (mosaic_Message.mk (mosaic_Key.mk (⟨#[97]⟩:ByteArray) 0 a3) ([(A1 a2)]))).bind fun a1 =>
  bif (bif a1.1 then true else (bif (decide (a2<256)) then (a1.2.1 != 0) else false)) then (some false) else (C6 F a8 a9 aA aB aC aD aE aF aG a4 aH a5 a6 a7 a2 k3 a3 a1.2.2.spec.Grid.X a1.2.2.spec.Grid.Y a1.2.2.horizon a1.2.2.count a1.2.2.spec.Grid.Size a1.2.2.spec.Grid.Wide a1.2.2.spec.Grid.High a1.2.2.spec.Earth.Lo a1.2.2.spec.Earth.Hi a1.2.2.spec.Radars a1.2.2.spec.Age a1.2.2.radars a1.2.2.kept a1.2.2.looks)) else (C6 F a8 a9 aA aB aC aD aE aF aG a4 aH a5 a6 a7 a2 k3 a3 a0.2.2.spec.Grid.X a0.2.2.spec.Grid.Y a0.2.2.horizon a0.2.2.count a0.2.2.spec.Grid.Size a0.2.2.spec.Grid.Wide a0.2.2.spec.Grid.High a0.2.2.spec.Earth.Lo a0.2.2.spec.Earth.Hi a0.2.2.spec.Radars a0.2.2.spec.Age a0.2.2.radars a0.2.2.kept a0.2.2.looks))) else (Cj F p0 aM aN aO aP aQ aR aS aT aU aI aV a8 a9 aA aB aC aD aE aF aG a4 aH aJ aK aL a5 a6 a7)
def Bk (F:Nat) (p0:Int) (p1:Int) (p2:Bool):Nat→Int→Int→Int→Int→Int→Int→Int→Int→Int→(List mosaic_Radar)→Int→Int→Int→Int→Int→Int→Int→Int→Int→Int→(List mosaic_Radar)→Int→(List (ByteArray×mosaic_Radar))→(List (mosaic_Key×(List (List api_Span))))→(List (mosaic_where×(List api_Span)))→(List (ByteArray×mosaic_Radar))→(List (mosaic_Key×(List (List api_Span))))→(List (mosaic_where×(List api_Span)))→Int→Option Bool
  | 0,_,_,_,_,_,_,_,_,_,_,_,_,_,_,_,_,_,_,_,_,_,_,_,_,_,_,_,_,_=>none
  | n+1,a8,a9,aA,aB,aC,aD,aE,aF,aG,a0,aH,aI,aJ,aK,aL,aM,aN,aO,aP,aQ,a1,aR,a2,a3,a4,a5,a6,a7,aS=>D6 F p0 p1 p2 (Bk F p0 p1 p2 n) a8 a9 aA aB aC aD aE aF aG a0 aH aI aJ aK aL aM aN aO aP aQ a1 aR a2 a3 a4 a5 a6 a7 aS
def De (F:Nat) (p0:Int) (p1:Int) (p2:Bool):Option Bool :=
  (F1 F (mosaic_Spec.mk (api_Grid.mk law11_S.Grid.X law11_S.Grid.Y law11_S.Grid.Size 1 1) (api_Span.mk law11_S.Earth.Lo law11_S.Earth.Hi) law11_S.Radars law11_S.Age)).bind fun y8 =>
  exc y8 (fun a3=>none) (fun a0=>(F1 F (mosaic_Spec.mk (api_Grid.mk law11_S.Grid.X law11_S.Grid.Y law11_S.Grid.Size 1 1) (api_Span.mk law11_S.Earth.Lo law11_S.Earth.Hi) law11_S.Radars law11_S.Age)).bind fun a2 =>
  exc a2 (fun a4=>none) (fun a1=>bif (bif (a0.2 != 0) then true else (a1.2 != 0)) then (some false) else (Bk F p0 p1 p2 F a0.1.spec.Grid.X a0.1.spec.Grid.Y a0.1.horizon a0.1.count a0.1.spec.Grid.Size a0.1.spec.Grid.Wide a0.1.spec.Grid.High a0.1.spec.Earth.Lo a0.1.spec.Earth.Hi a0.1.spec.Radars a0.1.spec.Age a1.1.spec.Grid.X a1.1.spec.Grid.Y a1.1.horizon a1.1.count a1.1.spec.Grid.Size a1.1.spec.Grid.Wide a1.1.spec.Grid.High a1.1.spec.Earth.Lo a1.1.spec.Earth.Hi a1.1.spec.Radars a1.1.spec.Age a0.1.radars a0.1.kept a0.1.looks a1.1.radars a1.1.kept a1.1.looks 0)))
end Go.Proofs.YtkbjbnkkfifbmaaGreat
