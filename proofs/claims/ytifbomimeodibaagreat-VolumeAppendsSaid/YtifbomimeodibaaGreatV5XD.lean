import Derived.Test.YtifbomimeodibaaGreatV5EB
namespace Go.Proofs.YtifbomimeodibaaGreat
open Go Go.RowKit Go.Eng
set_option maxRecDepth 10000
set_option maxHeartbeats 4000000
set_option linter.unusedVariables false
set_option linter.unusedSimpArgs false
structure volume_reader where
  b:(List Int)
  deriving Inhabited,DecidableEq
structure api_Site where
  Name:ByteArray
  X:Int
  Y:Int
  Z:Int
  Rose:Int
  Gates:Int
  Step:Int
  Width:Int
  deriving Inhabited,DecidableEq
def api_Site.cells (x:api_Site):List Value:=[.string x.Name,.int .i64 x.X,.int .i64 x.Y,.int .i64 x.Z,.int .i64 x.Rose,.int .i64 x.Gates,.int .i64 x.Step,.int .i64 x.Width]
theorem api_Site.cells_len (x:api_Site):(api_Site.cells x).length=8:=rfl
structure api_Span where
  Lo:Int
  Hi:Int
  deriving Inhabited,DecidableEq
def api_Span.cells (x:api_Span):List Value:=[.int .i64 x.Lo,.int .i64 x.Hi]
theorem api_Span.cells_len (x:api_Span):(api_Span.cells x).length=2:=rfl
structure api_Echo where
  Kind:Int
  Power:api_Span
  Steps:(api_Span×api_Span)
  Spread:Int
  Ratio:api_Span
  Match:api_Span
  Turn:api_Span
  deriving Inhabited,DecidableEq
def api_Echo.cells (x:api_Echo):List Value:=[.int .i64 x.Kind,.int .i64 x.Power.Lo,.int .i64 x.Power.Hi,.int .i64 x.Steps.1.Lo,.int .i64 x.Steps.1.Hi,.int .i64 x.Steps.2.Lo,.int .i64 x.Steps.2.Hi,.int .i64 x.Spread,.int .i64 x.Ratio.Lo,.int .i64 x.Ratio.Hi,.int .i64 x.Match.Lo,.int .i64 x.Match.Hi,.int .i64 x.Turn.Lo,.int .i64 x.Turn.Hi]
theorem api_Echo.cells_len (x:api_Echo):(api_Echo.cells x).length=14:=rfl
structure api_Grid where
  X:Int
  Y:Int
  Size:Int
  Wide:Int
  High:Int
  deriving Inhabited,DecidableEq
def api_Grid.cells (x:api_Grid):List Value:=[.int .i64 x.X,.int .i64 x.Y,.int .i64 x.Size,.int .i64 x.Wide,.int .i64 x.High]
theorem api_Grid.cells_len (x:api_Grid):(api_Grid.cells x).length=5:=rfl
structure api_Sweep where
  Site:api_Site
  Tilt:Int
  Time:Int
  Rays:(List (List api_Echo))
  deriving Inhabited,DecidableEq
structure volume_sweep where
  Sweep:api_Sweep
  deriving Inhabited,DecidableEq
structure api_Field where
  Grid:api_Grid
  Vals:(List api_Span)
  deriving Inhabited,DecidableEq
structure volume_field where
  key:ByteArray
  time:Int
  Field:api_Field
  deriving Inhabited,DecidableEq
structure volume_note where
  time:Int
  text:ByteArray
  deriving Inhabited,DecidableEq
def volume_note.cells (x:volume_note):List Value:=[.int .i64 x.time,.string x.text]
theorem volume_note.cells_len (x:volume_note):(volume_note.cells x).length=2:=rfl
structure volume_Item where
  Kind:Int
  Name:ByteArray
  Time:Int
  Sweep:api_Sweep
  Field:api_Field
  Text:ByteArray
  deriving Inhabited,DecidableEq
structure volume_writer where
  b:(List Int)
  deriving Inhabited,DecidableEq
structure ref12_reader where
  b:(List Int)
  bad:Bool
  deriving Inhabited,DecidableEq
structure ref12_Item where
  Kind:Int
  Name:ByteArray
  Time:Int
  Sweep:api_Sweep
  Field:api_Field
  Text:ByteArray
  deriving Inhabited,DecidableEq
abbrev api_Site.ar (x:api_Site):Array Value:=#[.string x.Name,.int .i64 x.X,.int .i64 x.Y,.int .i64 x.Z,.int .i64 x.Rose,.int .i64 x.Gates,.int .i64 x.Step,.int .i64 x.Width]
abbrev api_Site.ag (x:api_Site):Value:=.agg #[.string x.Name,.int .i64 x.X,.int .i64 x.Y,.int .i64 x.Z,.int .i64 x.Rose,.int .i64 x.Gates,.int .i64 x.Step,.int .i64 x.Width]
abbrev api_Echo.ar (x:api_Echo):Array Value:=#[.int .i64 x.Kind,.int .i64 x.Power.Lo,.int .i64 x.Power.Hi,.int .i64 x.Steps.1.Lo,.int .i64 x.Steps.1.Hi,.int .i64 x.Steps.2.Lo,.int .i64 x.Steps.2.Hi,.int .i64 x.Spread,.int .i64 x.Ratio.Lo,.int .i64 x.Ratio.Hi,.int .i64 x.Match.Lo,.int .i64 x.Match.Hi,.int .i64 x.Turn.Lo,.int .i64 x.Turn.Hi]
abbrev api_Echo.ag (x:api_Echo):Value:=.agg #[.int .i64 x.Kind,.int .i64 x.Power.Lo,.int .i64 x.Power.Hi,.int .i64 x.Steps.1.Lo,.int .i64 x.Steps.1.Hi,.int .i64 x.Steps.2.Lo,.int .i64 x.Steps.2.Hi,.int .i64 x.Spread,.int .i64 x.Ratio.Lo,.int .i64 x.Ratio.Hi,.int .i64 x.Match.Lo,.int .i64 x.Match.Hi,.int .i64 x.Turn.Lo,.int .i64 x.Turn.Hi]
abbrev api_Grid.ar (x:api_Grid):Array Value:=#[.int .i64 x.X,.int .i64 x.Y,.int .i64 x.Size,.int .i64 x.Wide,.int .i64 x.High]
abbrev api_Grid.ag (x:api_Grid):Value:=.agg #[.int .i64 x.X,.int .i64 x.Y,.int .i64 x.Size,.int .i64 x.Wide,.int .i64 x.High]
abbrev volume_Item.ax (x:volume_Item) (adg1_:Option Addr) (capg2_:Nat) (adg4_:Option Addr) (capg5_:Nat):Array Value:=#[.int .i64 x.Kind,.string x.Name,.int .i64 x.Time,.string x.Sweep.Site.Name,.int .i64 x.Sweep.Site.X,.int .i64 x.Sweep.Site.Y,.int .i64 x.Sweep.Site.Z,.int .i64 x.Sweep.Site.Rose,.int .i64 x.Sweep.Site.Gates,.int .i64 x.Sweep.Site.Step,.int .i64 x.Sweep.Site.Width,.int .i64 x.Sweep.Tilt,.int .i64 x.Sweep.Time,.slice adg1_ x.Sweep.Rays.length capg2_,.int .i64 x.Field.Grid.X,.int .i64 x.Field.Grid.Y,.int .i64 x.Field.Grid.Size,.int .i64 x.Field.Grid.Wide,.int .i64 x.Field.Grid.High,.slice adg4_ x.Field.Vals.length capg5_,.string x.Text]
abbrev ref12_Item.ax (x:ref12_Item) (adg1_:Option Addr) (capg2_:Nat) (adg4_:Option Addr) (capg5_:Nat):Array Value:=#[.int .i64 x.Kind,.string x.Name,.int .i64 x.Time,.string x.Sweep.Site.Name,.int .i64 x.Sweep.Site.X,.int .i64 x.Sweep.Site.Y,.int .i64 x.Sweep.Site.Z,.int .i64 x.Sweep.Site.Rose,.int .i64 x.Sweep.Site.Gates,.int .i64 x.Sweep.Site.Step,.int .i64 x.Sweep.Site.Width,.int .i64 x.Sweep.Tilt,.int .i64 x.Sweep.Time,.slice adg1_ x.Sweep.Rays.length capg2_,.int .i64 x.Field.Grid.X,.int .i64 x.Field.Grid.Y,.int .i64 x.Field.Grid.Size,.int .i64 x.Field.Grid.Wide,.int .i64 x.Field.Grid.High,.slice adg4_ x.Field.Vals.length capg5_,.string x.Text]
abbrev api_Sweep.ax (x:api_Sweep) (adg1_:Option Addr) (capg2_:Nat):Array Value:=#[.string x.Site.Name,.int .i64 x.Site.X,.int .i64 x.Site.Y,.int .i64 x.Site.Z,.int .i64 x.Site.Rose,.int .i64 x.Site.Gates,.int .i64 x.Site.Step,.int .i64 x.Site.Width,.int .i64 x.Tilt,.int .i64 x.Time,.slice adg1_ x.Rays.length capg2_]
abbrev volume_field.ax (x:volume_field) (adg1_:Option Addr) (capg2_:Nat):Array Value:=#[.string x.key,.int .i64 x.time,.int .i64 x.Field.Grid.X,.int .i64 x.Field.Grid.Y,.int .i64 x.Field.Grid.Size,.int .i64 x.Field.Grid.Wide,.int .i64 x.Field.Grid.High,.slice adg1_ x.Field.Vals.length capg2_]
abbrev api_Field.ax (x:api_Field) (adg1_:Option Addr) (capg2_:Nat):Array Value:=#[.int .i64 x.Grid.X,.int .i64 x.Grid.Y,.int .i64 x.Grid.Size,.int .i64 x.Grid.Wide,.int .i64 x.Grid.High,.slice adg1_ x.Vals.length capg2_]
abbrev api_Site.e0 (x:api_Site):Bool:=((x.Name==ByteArray.empty)&&(((x.X:Int)==0)&&(((x.Y:Int)==0)&&(((x.Z:Int)==0)&&(((x.Rose:Int)==0)&&(((x.Gates:Int)==0)&&(((x.Step:Int)==0)&&(((x.Width:Int)==0)&&true))))))))
abbrev api_Echo.e0 (x:api_Echo):Bool:=(((x.Kind:Int)==0)&&(((x.Power.Lo:Int)==0)&&(((x.Power.Hi:Int)==0)&&(((x.Steps.1.Lo:Int)==0)&&(((x.Steps.1.Hi:Int)==0)&&(((x.Steps.2.Lo:Int)==0)&&(((x.Steps.2.Hi:Int)==0)&&(((x.Spread:Int)==0)&&(((x.Ratio.Lo:Int)==0)&&(((x.Ratio.Hi:Int)==0)&&(((x.Match.Lo:Int)==0)&&(((x.Match.Hi:Int)==0)&&(((x.Turn.Lo:Int)==0)&&(((x.Turn.Hi:Int)==0)&&true))))))))))))))
abbrev api_Grid.e0 (x:api_Grid):Bool:=(((x.X:Int)==0)&&(((x.Y:Int)==0)&&(((x.Size:Int)==0)&&(((x.Wide:Int)==0)&&(((x.High:Int)==0)&&true)))))
abbrev z48:Array Value:=#[.int .i64 0,.string ByteArray.empty,.int .i64 0,.string ByteArray.empty,.int .i64 0,.int .i64 0,.int .i64 0,.int .i64 0,.int .i64 0,.int .i64 0,.int .i64 0,.int .i64 0,.int .i64 0,.slice none 0 0,.int .i64 0,.int .i64 0,.int .i64 0,.int .i64 0,.int .i64 0,.slice none 0 0,.string ByteArray.empty]
abbrev Xa:Array Value:=#[.int .i64 0,.int .i64 0,.int .i64 0,.int .i64 0,.int .i64 0,.int .i64 0,.int .i64 0,.int .i64 0,.int .i64 0,.int .i64 0,.int .i64 0,.int .i64 0,.int .i64 0,.int .i64 0]
abbrev z41:Array Value:=#[.string ByteArray.empty,.int .i64 0,.int .i64 0,.int .i64 0,.int .i64 0,.int .i64 0,.int .i64 0,.int .i64 0,.int .i64 0,.int .i64 0,.slice none 0 0]
abbrev z38:Array Value:=#[.string ByteArray.empty,.int .i64 0,.int .i64 0,.int .i64 0,.int .i64 0,.int .i64 0,.int .i64 0,.int .i64 0]
abbrev A73:Array Value:=#[.string ByteArray.empty,.int .i64 0,.int .i64 0,.int .i64 0,.int .i64 0,.int .i64 0,.int .i64 0,.slice none 0 0]
abbrev z43:Array Value:=#[.int .i64 0,.int .i64 0,.int .i64 0,.int .i64 0,.int .i64 0]
def Rp87:Rel (List api_Echo):=fun μ cs x=>∃(ad1:Option Addr) (cap2:Nat),cs=[.slice ad1 x.length cap2]∧ArrM μ 14 api_Echo.cells ad1 cap2 x
theorem Rp87.mono:Rel.Mono Rp87:=by
  intro μ ν cs x hle h
  obtain ⟨ad1,cap2,rfl,f0⟩:=h
  exact ⟨ad1,cap2,rfl,f0.mono hle⟩
theorem Rp87.one:Rel.One 1 Rp87:=by
  intro μ cs x h
  obtain ⟨ad1,cap2,rfl,f0⟩:=h
  all_goals rfl
def Rp156:Rel volume_sweep:=fun μ cs x=>∃(ad1:Option Addr) (cap2:Nat) (css3:List (List Value)),cs=[.string x.Sweep.Site.Name,.int .i64 x.Sweep.Site.X,.int .i64 x.Sweep.Site.Y,.int .i64 x.Sweep.Site.Z,.int .i64 x.Sweep.Site.Rose,.int .i64 x.Sweep.Site.Gates,.int .i64 x.Sweep.Site.Step,.int .i64 x.Sweep.Site.Width,.int .i64 x.Sweep.Tilt,.int .i64 x.Sweep.Time,.slice ad1 x.Sweep.Rays.length cap2]∧ArrQ μ 1 Rp87 ad1 cap2 css3 x.Sweep.Rays
theorem Rp156.mono:Rel.Mono Rp156:=by
  intro μ ν cs x hle h
  obtain ⟨ad1,cap2,css3,rfl,f0⟩:=h
  exact ⟨ad1,cap2,css3,rfl,f0.mono Rp87.mono hle⟩
def Rp158:Rel volume_field:=fun μ cs x=>∃(ad1:Option Addr) (cap2:Nat),cs=[.string x.key,.int .i64 x.time,.int .i64 x.Field.Grid.X,.int .i64 x.Field.Grid.Y,.int .i64 x.Field.Grid.Size,.int .i64 x.Field.Grid.Wide,.int .i64 x.Field.Grid.High,.slice ad1 x.Field.Vals.length cap2]∧ArrM μ 2 api_Span.cells ad1 cap2 x.Field.Vals
theorem Rp158.mono:Rel.Mono Rp158:=by
  intro μ ν cs x hle h
  obtain ⟨ad1,cap2,rfl,f0⟩:=h
  exact ⟨ad1,cap2,rfl,f0.mono hle⟩
def Rp48:Rel volume_Item:=fun μ cs x=>∃(ad1:Option Addr) (cap2:Nat) (css3:List (List Value)) (ad4:Option Addr) (cap5:Nat),cs=[.int .i64 x.Kind,.string x.Name,.int .i64 x.Time,.string x.Sweep.Site.Name,.int .i64 x.Sweep.Site.X,.int .i64 x.Sweep.Site.Y,.int .i64 x.Sweep.Site.Z,.int .i64 x.Sweep.Site.Rose,.int .i64 x.Sweep.Site.Gates,.int .i64 x.Sweep.Site.Step,.int .i64 x.Sweep.Site.Width,.int .i64 x.Sweep.Tilt,.int .i64 x.Sweep.Time,.slice ad1 x.Sweep.Rays.length cap2,.int .i64 x.Field.Grid.X,.int .i64 x.Field.Grid.Y,.int .i64 x.Field.Grid.Size,.int .i64 x.Field.Grid.Wide,.int .i64 x.Field.Grid.High,.slice ad4 x.Field.Vals.length cap5,.string x.Text]∧ArrQ μ 1 Rp87 ad1 cap2 css3 x.Sweep.Rays∧ArrM μ 2 api_Span.cells ad4 cap5 x.Field.Vals
theorem Rp48.mono:Rel.Mono Rp48:=by
  intro μ ν cs x hle h
  obtain ⟨ad1,cap2,css3,ad4,cap5,rfl,f0,f1⟩:=h
  exact ⟨ad1,cap2,css3,ad4,cap5,rfl,f0.mono Rp87.mono hle,f1.mono hle⟩
theorem Rp48.one:Rel.One 21 Rp48:=by
  intro μ cs x h
  obtain ⟨ad1,cap2,css3,ad4,cap5,rfl,f0,f1⟩:=h
  all_goals rfl
def Rp49:Rel ref12_Item:=fun μ cs x=>∃(ad1:Option Addr) (cap2:Nat) (css3:List (List Value)) (ad4:Option Addr) (cap5:Nat),cs=[.int .i64 x.Kind,.string x.Name,.int .i64 x.Time,.string x.Sweep.Site.Name,.int .i64 x.Sweep.Site.X,.int .i64 x.Sweep.Site.Y,.int .i64 x.Sweep.Site.Z,.int .i64 x.Sweep.Site.Rose,.int .i64 x.Sweep.Site.Gates,.int .i64 x.Sweep.Site.Step,.int .i64 x.Sweep.Site.Width,.int .i64 x.Sweep.Tilt,.int .i64 x.Sweep.Time,.slice ad1 x.Sweep.Rays.length cap2,.int .i64 x.Field.Grid.X,.int .i64 x.Field.Grid.Y,.int .i64 x.Field.Grid.Size,.int .i64 x.Field.Grid.Wide,.int .i64 x.Field.Grid.High,.slice ad4 x.Field.Vals.length cap5,.string x.Text]∧ArrQ μ 1 Rp87 ad1 cap2 css3 x.Sweep.Rays∧ArrM μ 2 api_Span.cells ad4 cap5 x.Field.Vals
theorem Rp49.mono:Rel.Mono Rp49:=by
  intro μ ν cs x hle h
  obtain ⟨ad1,cap2,css3,ad4,cap5,rfl,f0,f1⟩:=h
  exact ⟨ad1,cap2,css3,ad4,cap5,rfl,f0.mono Rp87.mono hle,f1.mono hle⟩
theorem Rp49.one:Rel.One 21 Rp49:=by
  intro μ cs x h
  obtain ⟨ad1,cap2,css3,ad4,cap5,rfl,f0,f1⟩:=h
  all_goals rfl
def Rp22:Rel (List Int):=fun μ cs x=>∃(ad1:Option Addr) (cap2:Nat),cs=[.slice ad1 x.length cap2]∧ArrM μ 1 (fK .u8) ad1 cap2 x
theorem Rp22.mono:Rel.Mono Rp22:=by
  intro μ ν cs x hle h
  obtain ⟨ad1,cap2,rfl,f0⟩:=h
  exact ⟨ad1,cap2,rfl,f0.mono hle⟩
inductive volume_thing where
  | nil_
  | ic156 (x:volume_sweep)
  | ic158 (x:volume_field)
  | ic160 (x:volume_note)
  deriving Inhabited,DecidableEq
def volume_thing.cs {α:Type} (x:volume_thing) (a:α) (a0:volume_sweep→α) (a1:volume_field→α) (a2:volume_note→α):α:=match x with|.nil_=>a|.ic156 x=>a0 x|.ic158 x=>a1 x|.ic160 x=>a2 x 
theorem volume_thing.toNil {α:Type} {x:volume_thing} {a:α} {a0:volume_sweep→α} {a1:volume_field→α} {a2:volume_note→α} {z:α} (hq:x=.nil_) (h:x.cs a a0 a1 a2=z):a=z:=by subst hq;exact h
theorem volume_thing.to156 {α:Type} {x:volume_thing} {y:volume_sweep} {a:α} {a0:volume_sweep→α} {a1:volume_field→α} {a2:volume_note→α} {z:α} (hq:x=.ic156 y) (h:x.cs a a0 a1 a2=z):a0 y=z:=by subst hq;exact h
theorem volume_thing.to158 {α:Type} {x:volume_thing} {y:volume_field} {a:α} {a1:volume_sweep→α} {a0:volume_field→α} {a2:volume_note→α} {z:α} (hq:x=.ic158 y) (h:x.cs a a1 a0 a2=z):a0 y=z:=by subst hq;exact h
theorem volume_thing.to160 {α:Type} {x:volume_thing} {y:volume_note} {a:α} {a1:volume_sweep→α} {a2:volume_field→α} {a0:volume_note→α} {z:α} (hq:x=.ic160 y) (h:x.cs a a1 a2 a0=z):a0 y=z:=by subst hq;exact h
def volume_thing.R (μ:Frz) (v:Value) (x:volume_thing):Prop:=match x with|.nil_=>v=.nilIface|.ic156 y=>∃cs:List Value,v=.iface 156 (.agg cs.toArray)∧Rp156 μ cs y|.ic158 y=>∃cs:List Value,v=.iface 158 (.agg cs.toArray)∧Rp158 μ cs y|.ic160 y=>∃cs:List Value,v=.iface 160 (.agg cs.toArray)∧(RpF volume_note.cells) μ cs y 
theorem volume_thing.R.mono {μ ν:Frz} {v:Value} {x:volume_thing} (h:volume_thing.R μ v x) (hle:μ.le ν):volume_thing.R ν v x:=by
  cases x with
  | nil_=>exact h
  | ic156 y =>
    obtain ⟨cs,h1,h2⟩:=h
    exact ⟨cs,h1,Rp156.mono _ _ _ _ hle h2⟩
  | ic158 y =>
    obtain ⟨cs,h1,h2⟩:=h
    exact ⟨cs,h1,Rp158.mono _ _ _ _ hle h2⟩
  | ic160 y =>
    obtain ⟨cs,h1,h2⟩:=h
    exact ⟨cs,h1,h2⟩
theorem volume_thing.R.one {μ:Frz} {v:Value} {x:volume_thing} (h:volume_thing.R μ v x):v.cells=#[v]∧v.oneCell'=true:=by
  cases x with
  | nil_=>obtain rfl:v=.nilIface:=h;exact ⟨rfl,rfl⟩
  | ic156 y=>obtain ⟨cs,rfl,_⟩:=h;exact ⟨rfl,rfl⟩
  | ic158 y=>obtain ⟨cs,rfl,_⟩:=h;exact ⟨rfl,rfl⟩
  | ic160 y=>obtain ⟨cs,rfl,_⟩:=h;exact ⟨rfl,rfl⟩
def Bi (p0:List Int) (p1:Int):Int:=A1d p0 p1
def H6 (p0:ByteArray):Bool:=A1m p0
def Gy (p0:(List Int)) (p1:(List Int)):Bool :=
  sEq (bst p0) (bst p1)
def Fw (F:Nat) (p0:(List Int)) (p1:(List Int)):Option Bool :=
  bif (decide (((p0.length:Nat):Int)≥((p1.length:Nat):Int))) then ((Gz p0 (0:Int) ((p1.length:Nat):Int)).bind fun l8 =>
  some (Gy l8 p1)) else (some false)
def Gk {σ:Type} (body:(σ→(Int×(List Int))→Option (σ×Bool))) (c0_:(List Int)) (k1:(Int→σ→Option (σ×Bool))) (a0:Int) (a4:σ):Option (σ×Bool) :=
  bif (bif (decide (a0≥0)) then (decide (a0<((c0_.length:Nat):Int))) else false) then ((ck (a0+1)).bind fun a7 =>
  (Gz c0_ a7 ((c0_.length:Nat):Int)).bind fun a1 =>
  bif (decide ((Bi a1 0)<0)) then ((ck (a0+1)).bind fun a8 =>
  (Gz c0_ a8 ((c0_.length:Nat):Int)).bind fun a5 =>
  (body a4 (a0,a5)).bind fun a2 =>
  bif a2.2 then (some (a2.1,true)) else (some (a2.1,false))) else ((ck (a0+1)).bind fun a9 =>
  (ck (a0+1)).bind fun aA =>
  (ck (aA+(Bi a1 0))).bind fun aB =>
  (Gz c0_ a9 aB).bind fun a6 =>
  (body a4 (a0,a6)).bind fun a3 =>
  bif a3.2 then ((ck (1+(Bi a1 0))).bind fun aC =>
  (ck (a0+aC)).bind fun aD =>
  k1 aD a3.1) else (some (a3.1,false)))) else (some (a4,true))
def Ed {σ:Type} (body:(σ→(Int×(List Int))→Option (σ×Bool))) (c0_:(List Int)):Nat→Int→σ→Option (σ×Bool)
  | 0,_,_=>none
  | n+1,a1,a0=>Gk body c0_ (Ed body c0_ n) a1 a0
def G1 {σ:Type} (F:Nat) (c0_:(List Int)) (body:σ→(Int×(List Int))→Option (σ×Bool)) (s_:σ):Option (σ×Bool) :=
  Ed body c0_ F (Bi c0_ 0) s_
def S5 (p0:(List Int)):Unit :=
  ()
def Fa (p0:volume_reader):Option (Except (Value×volume_reader) (Int×volume_reader)) :=
  some (.error (.iface 128 (.int .i64 7),p0))
def Fb (a2:Int) (a3:Int) (a0:Int) (k2:(Int→Int→Int→Option (Except (Value×volume_reader) (Int×volume_reader)))) (a1:Int):Option (Except (Value×volume_reader) (Int×volume_reader)) :=
  (ck a1).bind fun a4 =>
  (ck (a4-128)).bind fun a5 =>
  (ck (a5*a0)).bind fun a6 =>
  (ck (a3+a6)).bind fun a7 =>
  (ck (a0*127)).bind fun a8 =>
  (ck (a2+1)).bind fun a9 =>
  k2 a9 a7 a8
def F9 (p0:volume_reader) (a2:(List Int)) (k2:(Int→Int→Int→Option (Except (Value×volume_reader) (Int×volume_reader)))) (a1:Int) (a3:Int) (a4:Int):Option (Except (Value×volume_reader) (Int×volume_reader)) :=
  bif (decide (a1<((a2.length:Nat):Int))) then ((C5 a2 a1).bind fun a0 =>
  bif (bif (bif (a0==0) then true else (a0==255)) then true else (bif (a0==1) then (decide (a1>0)) else false)) then (some (.error (.iface 128 (.int .i64 7),p0))) else (bif (decide (a0<128)) then ((ck (a1+1)).bind fun a6 =>
  (Gz p0.b a6 ((p0.b.length:Nat):Int)).bind fun a5 =>
  (ck a0).bind fun a7 =>
  (ck (a7-1)).bind fun a8 =>
  (ck (a8*a4)).bind fun a9 =>
  (ck (a3+a9)).bind fun aA =>
  some (.ok (aA,(volume_reader.mk a5)))) else (Fb a1 a3 a4 k2 a0))) else (Fa p0)
def Bk (p0:volume_reader) (a0:(List Int)):Nat→Int→Int→Int→Option (Except (Value×volume_reader) (Int×volume_reader))
  | 0,_,_,_=>none
  | n+1,a1,a2,a3=>F9 p0 a0 (Bk p0 a0 n) a1 a2 a3
def Af (F:Nat) (p0:volume_reader):Option (Except (Value×volume_reader) (Int×volume_reader)) :=
  (Gz p0.b (0:Int) (if 8<((p0.b.length:Nat):Int) then 8 else ((p0.b.length:Nat):Int))).bind fun a0 =>
  Bk p0 a0 F 0 0 1
def Dj (F:Nat) (p0:volume_reader):Option (Int×Bool×volume_reader) :=
  (Af F p0).bind fun y5 =>
  exc y5 (fun e7=>(asI 128 .i64 e7.1).bind fun a0 =>
  some (0,false,(volume_reader.mk e7.2.b))) fun y6 =>
  some (y6.1,true,(volume_reader.mk y6.2.b))
def Mg (a0:(List Int)):Option (List Int) :=
  (C5 a0 4).bind fun a2 =>
  (C5 a0 4).bind fun a3 =>
  (X3 a0 4 (IntKind.u8.wrap (a2-127))).bind fun a1 =>
  some a1
def Kl (k3:(Int→Int→Int→(List Int)→Option (List Int))) (a2:Int) (a0:Int) (a3:Int) (a1:(List Int)):Option (List Int) :=
  bif (decide (a0<a2)) then ((Nw a3 127).bind fun a5 =>
  (ck (128+a5)).bind fun a6 =>
  (C5 a1 a0).bind fun a9 =>
  (X3 a1 a0 (IntKind.u8.wrap a6)).bind fun a4 =>
  (Mr a3 127).bind fun a7 =>
  (ck (a0+1)).bind fun a8 =>
  k3 a2 a8 a7 a4) else (Mg a1)
def Fi:Nat→Int→Int→Int→(List Int)→Option (List Int)
  | 0,_,_,_,_=>none
  | n+1,a1,a2,a3,a0=>Kl (Fi n) a1 a2 a3 a0
def Mf (F:Nat) (a1:Int):Option (List Int) :=
  (mkI 1 5 0).bind fun a0 =>
  Fi F ((a0.length:Nat):Int) 0 a1 a0
def Me (F:Nat) (p0:(List Int)) (k4:(Int→Int→Option (List Int))) (a0:Int) (a1:Int):Option (List Int) :=
  bif (decide (a0<((p0.length:Nat):Int))) then ((C5 p0 a0).bind fun a2 =>
  (ck (31*a1)).bind fun a3 =>
  (ck a2).bind fun a4 =>
  (ck (a3+a4)).bind fun a5 =>
  (Nw a5 2147483647).bind fun a6 =>
  (ck (a0+1)).bind fun a7 =>
  k4 a7 a6) else (Mf F a1)
def Jn (F:Nat) (p0:(List Int)):Nat→Int→Int→Option (List Int)
  | 0,_,_=>none
  | n+1,a0,a1=>Me F p0 (Jn F p0 n) a0 a1
def Kw (F:Nat) (p0:(List Int)):Option (List Int) :=
  Jn F p0 F 0 1
def Hv (F:Nat) (p0:Int):Option (Except Value Unit) :=
  bif (p0 != 0) then (some (.error (.iface 128 (.int .i64 7)))) else (some (.ok ()))
def Ga (y5:(Int×volume_reader)):Option (Except (Value×volume_reader) (ByteArray×volume_reader)) :=
  (Gz y5.2.b (0:Int) y5.1).bind fun a0 =>
  (Gz y5.2.b y5.1 ((y5.2.b.length:Nat):Int)).bind fun a1 =>
  some (.ok ((bst a0),(volume_reader.mk a1)))
def E5 (F:Nat) (p0:volume_reader):Option (Except (Value×volume_reader) (ByteArray×volume_reader)) :=
  (Af F p0).bind fun y4 =>
  exc y4 (fun e6=>some (.error (e6.1,(volume_reader.mk e6.2.b)))) fun y5 =>
  bif (decide (y5.1>((y5.2.b.length:Nat):Int))) then (some (.error (.iface 128 (.int .i64 7),(volume_reader.mk y5.2.b)))) else (Ga y5)
def Bw (F:Nat) (p0:volume_reader):Option (Except (Value×volume_reader) (Int×volume_reader)) :=
  (Af F p0).bind fun y4 =>
  exc y4 (fun e6=>some (.error (e6.1,(volume_reader.mk e6.2.b)))) fun y5 =>
  (Nw y5.1 2).bind fun a0 =>
  bif (a0==1) then ((ck (y5.1+1)).bind fun a1 =>
  (Mr (IntKind.i64.wrap (0-a1)) 2).bind fun a2 =>
  some (.ok (a2,(volume_reader.mk y5.2.b)))) else ((Mr y5.1 2).bind fun a3 =>
  some (.ok (a3,(volume_reader.mk y5.2.b))))
def N4 (F:Nat) (p0:ByteArray):Option Bool :=
  (gd (((bif (!(sEq p0 (⟨#[]⟩:ByteArray))) then (decide (((p0.size:Nat):Int)≤12)) else false)==true&&true)) (Qt p0 (0:Int)) default).bind fun u1 =>
  (gd (((bif (bif (!(sEq p0 (⟨#[]⟩:ByteArray))) then (decide (((p0.size:Nat):Int)≤12)) else false) then (decide (u1≥97)) else false)==true&&true)) (Qt p0 (0:Int)) default).bind fun u2 =>
  some (bif (bif (bif (bif (!(sEq p0 (⟨#[]⟩:ByteArray))) then (decide (((p0.size:Nat):Int)≤12)) else false) then (decide (u1≥97)) else false) then (decide (u2≤122)) else false) then (!(H6 p0)) else false)
def Ac (p0:Int) (p1:Int) (p2:Int):Bool :=
  bif (decide (p1≤p0)) then (decide (p0≤p2)) else false
def E8 (c4:Bool):Option Int :=
  bif c4 then (some 3) else (some 0)
def Ep (p0:api_Site) (c3:Bool):Option Int :=
  bif c3 then (some 3) else (bif (!(Ac p0.Rose 1 90)) then (E8 (!(Ac p0.Rose 1 90))) else (bif (!(Ac p0.Gates 1 200)) then (E8 (!(Ac p0.Gates 1 200))) else (bif (!(Ac p0.Step 50 2000)) then (E8 (!(Ac p0.Step 50 2000))) else (E8 (!(Ac p0.Width 0 8))))))
def Fj (F:Nat) (p0:api_Site):Option Int :=
  (N4 F p0.Name).bind fun y2 =>
  bif (!y2) then (some 10) else (bif (!(Ac p0.X (-1048576) 1048576)) then (Ep p0 (!(Ac p0.X (-1048576) 1048576))) else (bif (!(Ac p0.Y (-1048576) 1048576)) then (Ep p0 (!(Ac p0.Y (-1048576) 1048576))) else (Ep p0 (!(Ac p0.Z 0 20000)))))
def Bu (F:Nat) (p0:volume_reader):Option (Except (Value×volume_reader) (api_Span×volume_reader)) :=
  (Bw F p0).bind fun y5 =>
  exc y5 (fun e7=>some (.error (e7.1,(volume_reader.mk e7.2.b)))) fun y6 =>
  (Af F (volume_reader.mk y6.2.b)).bind fun a3 =>
  exc a3 (fun a0=>some (.error (a0.1,(volume_reader.mk a0.2.b)))) fun a1 =>
  (ck (y6.1+a1.1)).bind fun a2 =>
  some (.ok ((api_Span.mk y6.1 a2),(volume_reader.mk a1.2.b)))
def G7 (F:Nat) (p0:volume_reader):Option (Except (Value×volume_reader) (api_Echo×volume_reader)) :=
  (Af F p0).bind fun y5 =>
  exc y5 (fun e7=>some (.error (e7.1,(volume_reader.mk e7.2.b)))) fun y6 =>
  bif (y6.1==1) then ((Af F (volume_reader.mk y6.2.b)).bind fun aI =>
  exc aI (fun a9=>some (.error (a9.1,(volume_reader.mk a9.2.b)))) fun aF =>
  some (.ok ((api_Echo.mk y6.1 (api_Span.mk 0 aF.1) ((api_Span.mk 0 0),(api_Span.mk 0 0)) 0 (api_Span.mk 0 0) (api_Span.mk 0 0) (api_Span.mk 0 0)),(volume_reader.mk aF.2.b)))) else ((Bu F (volume_reader.mk y6.2.b)).bind fun aJ =>
  exc aJ (fun aA=>some (.error (aA.1,(volume_reader.mk aA.2.b)))) fun a0 =>
  (Bu F (volume_reader.mk a0.2.b)).bind fun aK =>
  exc aK (fun aB=>some (.error (aB.1,(volume_reader.mk aB.2.b)))) fun a1 =>
  (Bu F (volume_reader.mk a1.2.b)).bind fun aL =>
  exc aL (fun aC=>some (.error (aC.1,(volume_reader.mk aC.2.b)))) fun a2 =>
  (Af F (volume_reader.mk a2.2.b)).bind fun aM =>
  exc aM (fun aD=>some (.error (aD.1,(volume_reader.mk aD.2.b)))) fun a3 =>
  bif (y6.1==3) then ((Bu F (volume_reader.mk a3.2.b)).bind fun aN =>
  exc aN (fun aE=>some (.error (aE.1,(volume_reader.mk aE.2.b)))) fun a6 =>
  (Bu F (volume_reader.mk a6.2.b)).bind fun aG =>
  exc aG (fun a7=>some (.error (a7.1,(volume_reader.mk a7.2.b)))) fun a4 =>
  (Bu F (volume_reader.mk a4.2.b)).bind fun aH =>
  exc aH (fun a8=>some (.error (a8.1,(volume_reader.mk a8.2.b)))) fun a5 =>
  some (.ok ((api_Echo.mk y6.1 (api_Span.mk a0.1.Lo a0.1.Hi) ((api_Span.mk a6.1.Lo a6.1.Hi),(api_Span.mk a4.1.Lo a4.1.Hi)) a3.1 (api_Span.mk a1.1.Lo a1.1.Hi) (api_Span.mk a2.1.Lo a2.1.Hi) (api_Span.mk a5.1.Lo a5.1.Hi)),(volume_reader.mk a5.2.b)))) else (some (.ok ((api_Echo.mk y6.1 (api_Span.mk a0.1.Lo a0.1.Hi) ((api_Span.mk 0 0),(api_Span.mk 0 0)) a3.1 (api_Span.mk a1.1.Lo a1.1.Hi) (api_Span.mk a2.1.Lo a2.1.Hi) (api_Span.mk 0 0)),(volume_reader.mk a3.2.b)))))
def Dk (c2:Bool):Int :=
  bif c2 then (3) else (0)
def Bn (p0:api_Grid):Int :=
  bif (!(Ac p0.X (-1048576) 1048576)) then (Dk (!(Ac p0.X (-1048576) 1048576))) else (bif (!(Ac p0.Y (-1048576) 1048576)) then (Dk (!(Ac p0.Y (-1048576) 1048576))) else (bif (!(Ac p0.Size 1 10000)) then (Dk (!(Ac p0.Size 1 10000))) else (bif (!(Ac p0.Wide 1 64)) then (Dk (!(Ac p0.Wide 1 64))) else (Dk (!(Ac p0.High 1 64))))))
def Cc (a2:Int) (a3:Int) (a4:Int) (a5:Int) (a6:Int) (a7:Int) (a8:Int) (a9:Int) (aA:Int) (aB:Int) (aC:Int) (aD:Int) (aE:Int) (aF:Int) (a0:(List Int)) (a1:(List api_Echo)):Option (Except (Value×volume_reader) ((List api_Echo)×volume_reader)) :=
  some (.ok (a1,(volume_reader.mk a0)))
def Do (k2:(Int→Int→Int→Int→Int→Int→Int→Int→Int→Int→Int→Int→Int→Int→(List Int)→(List api_Echo)→Option (Except (Value×volume_reader) ((List api_Echo)×volume_reader)))) (a1:(List api_Echo)) (a0:(api_Echo×volume_reader)):Option (Except (Value×volume_reader) ((List api_Echo)×volume_reader)) :=
  (apd 112 a1 ([(api_Echo.mk a0.1.Kind (api_Span.mk a0.1.Power.Lo a0.1.Power.Hi) ((api_Span.mk a0.1.Steps.1.Lo a0.1.Steps.1.Hi),(api_Span.mk a0.1.Steps.2.Lo a0.1.Steps.2.Hi)) a0.1.Spread (api_Span.mk a0.1.Ratio.Lo a0.1.Ratio.Hi) (api_Span.mk a0.1.Match.Lo a0.1.Match.Hi) (api_Span.mk a0.1.Turn.Lo a0.1.Turn.Hi))])).bind fun a2 =>
  k2 a0.1.Kind a0.1.Power.Lo a0.1.Match.Lo a0.1.Match.Hi a0.1.Turn.Lo a0.1.Turn.Hi a0.1.Power.Hi a0.1.Steps.1.Lo a0.1.Steps.1.Hi a0.1.Steps.2.Lo a0.1.Steps.2.Hi a0.1.Spread a0.1.Ratio.Lo a0.1.Ratio.Hi a0.2.b a2
def Ce (F:Nat) (p1:Int) (a3:Int) (a4:Int) (a5:Int) (a6:Int) (a7:Int) (a8:Int) (a9:Int) (aA:Int) (aB:Int) (aC:Int) (aD:Int) (aE:Int) (aF:Int) (aG:Int) (k2:(Int→Int→Int→Int→Int→Int→Int→Int→Int→Int→Int→Int→Int→Int→(List Int)→(List api_Echo)→Option (Except (Value×volume_reader) ((List api_Echo)×volume_reader)))) (aH:(Int×volume_reader)) (a1:(List api_Echo)):Option (Except (Value×volume_reader) ((List api_Echo)×volume_reader)) :=
  bif (decide (((a1.length:Nat):Int)<p1)) then ((G7 F (volume_reader.mk aH.2.b)).bind fun aI =>
  exc aI (fun a2=>some (.error (a2.1,(volume_reader.mk a2.2.b)))) fun a0 =>
  bif (((a0.1.Kind:Int)==a3)&&((((a0.1.Power.Lo:Int)==a4)&&(((a0.1.Power.Hi:Int)==a9)&&true))&&(((((a0.1.Steps.1.Lo:Int)==aA)&&(((a0.1.Steps.1.Hi:Int)==aB)&&true))&&((((a0.1.Steps.2.Lo:Int)==aC)&&(((a0.1.Steps.2.Hi:Int)==aD)&&true))&&true))&&(((a0.1.Spread:Int)==aE)&&((((a0.1.Ratio.Lo:Int)==aF)&&(((a0.1.Ratio.Hi:Int)==aG)&&true))&&((((a0.1.Match.Lo:Int)==a5)&&(((a0.1.Match.Hi:Int)==a6)&&true))&&((((a0.1.Turn.Lo:Int)==a7)&&(((a0.1.Turn.Hi:Int)==a8)&&true))&&true))))))) then (some (.error (.iface 128 (.int .i64 7),(volume_reader.mk a0.2.b)))) else (Do k2 a1 a0)) else (k2 a3 a4 a5 a6 a7 a8 a9 aA aB aC aD aE aF aG aH.2.b a1)
def Dm (F:Nat) (p1:Int) (a1:Int) (a2:Int) (a3:Int) (a4:Int) (a5:Int) (a6:Int) (a7:Int) (a8:Int) (a9:Int) (aA:Int) (aB:Int) (aC:Int) (aD:Int) (aE:Int) (k2:(Int→Int→Int→Int→Int→Int→Int→Int→Int→Int→Int→Int→Int→Int→(List Int)→(List api_Echo)→Option (Except (Value×volume_reader) ((List api_Echo)×volume_reader)))) (aG:(Int×volume_reader)) (k6:(Int→(List api_Echo)→Option (Except (Value×volume_reader) ((List api_Echo)×volume_reader)))) (aF:Int) (a0:(List api_Echo)):Option (Except (Value×volume_reader) ((List api_Echo)×volume_reader)) :=
  bif (decide (aF<aG.1)) then ((apd 112 a0 ([(api_Echo.mk a1 (api_Span.mk a2 a7) ((api_Span.mk a8 a9),(api_Span.mk aA aB)) aC (api_Span.mk aD aE) (api_Span.mk a3 a4) (api_Span.mk a5 a6))])).bind fun aH =>
  (ck (aF+1)).bind fun aI =>
  k6 aI aH) else (Ce F p1 a1 a2 a3 a4 a5 a6 a7 a8 a9 aA aB aC aD aE k2 aG a0)
def Bc (F:Nat) (p1:Int) (a0:Int) (a1:Int) (a2:Int) (a3:Int) (a4:Int) (a5:Int) (a6:Int) (a7:Int) (a8:Int) (a9:Int) (aA:Int) (aB:Int) (aC:Int) (aD:Int) (k2:(Int→Int→Int→Int→Int→Int→Int→Int→Int→Int→Int→Int→Int→Int→(List Int)→(List api_Echo)→Option (Except (Value×volume_reader) ((List api_Echo)×volume_reader)))) (aE:(Int×volume_reader)):Nat→Int→(List api_Echo)→Option (Except (Value×volume_reader) ((List api_Echo)×volume_reader))
  | 0,_,_=>none
  | n+1,aG,aF=>Dm F p1 a0 a1 a2 a3 a4 a5 a6 a7 a8 a9 aA aB aC aD k2 aE (Bc F p1 a0 a1 a2 a3 a4 a5 a6 a7 a8 a9 aA aB aC aD k2 aE n) aG aF
def Dn (F:Nat) (p1:Int) (a1:Int) (a2:Int) (a3:Int) (a4:Int) (a5:Int) (a6:Int) (a7:Int) (a8:Int) (a9:Int) (aA:Int) (aB:Int) (aC:Int) (aD:Int) (aE:Int) (a0:(List api_Echo)) (k2:(Int→Int→Int→Int→Int→Int→Int→Int→Int→Int→Int→Int→Int→Int→(List Int)→(List api_Echo)→Option (Except (Value×volume_reader) ((List api_Echo)×volume_reader)))) (aF:(Int×volume_reader)):Option (Except (Value×volume_reader) ((List api_Echo)×volume_reader)) :=
  Bc F p1 a1 a2 a3 a4 a5 a6 a7 a8 a9 aA aB aC aD aE k2 aF F 0 a0
def Cb (F:Nat) (p1:Int) (k2:(Int→Int→Int→Int→Int→Int→Int→Int→Int→Int→Int→Int→Int→Int→(List Int)→(List api_Echo)→Option (Except (Value×volume_reader) ((List api_Echo)×volume_reader)))) (a4:Int) (a5:Int) (a6:Int) (a7:Int) (a8:Int) (a9:Int) (aA:Int) (aB:Int) (aC:Int) (aD:Int) (aE:Int) (aF:Int) (aG:Int) (aH:Int) (a3:(List Int)) (a0:(List api_Echo)):Option (Except (Value×volume_reader) ((List api_Echo)×volume_reader)) :=
  bif (decide (((a0.length:Nat):Int)<p1)) then ((Af F (volume_reader.mk a3)).bind fun aJ =>
  exc aJ (fun a2=>some (.error (a2.1,(volume_reader.mk a2.2.b)))) fun a1 =>
  (ck (p1-((a0.length:Nat):Int))).bind fun aI =>
  bif (decide (a1.1>aI)) then (some (.error (.iface 128 (.int .i64 7),(volume_reader.mk a1.2.b)))) else (Dn F p1 a4 a5 a6 a7 a8 a9 aA aB aC aD aE aF aG aH a0 k2 a1)) else (Cc a4 a5 a6 a7 a8 a9 aA aB aC aD aE aF aG aH a3 a0)
def B1 (F:Nat) (p1:Int):Nat→Int→Int→Int→Int→Int→Int→Int→Int→Int→Int→Int→Int→Int→Int→(List Int)→(List api_Echo)→Option (Except (Value×volume_reader) ((List api_Echo)×volume_reader))
  | 0,_,_,_,_,_,_,_,_,_,_,_,_,_,_,_,_=>none
  | n+1,a2,a3,a4,a5,a6,a7,a8,a9,aA,aB,aC,aD,aE,aF,a0,a1=>Cb F p1 (B1 F p1 n) a2 a3 a4 a5 a6 a7 a8 a9 aA aB aC aD aE aF a0 a1
def Cu (F:Nat) (p0:volume_reader) (p1:Int) (p2:api_Echo):Option (Except (Value×volume_reader) ((List api_Echo)×volume_reader)) :=
  B1 F p1 F p2.Kind p2.Power.Lo p2.Match.Lo p2.Match.Hi p2.Turn.Lo p2.Turn.Hi p2.Power.Hi p2.Steps.1.Lo p2.Steps.1.Hi p2.Steps.2.Lo p2.Steps.2.Hi p2.Spread p2.Ratio.Lo p2.Ratio.Hi p0.b ([])
def Cg (a2:Int) (a3:Int) (a0:(List Int)) (a1:(List api_Span)):Option (Except (Value×volume_reader) ((List api_Span)×volume_reader)) :=
  some (.ok (a1,(volume_reader.mk a0)))
def Dr (k2:(Int→Int→(List Int)→(List api_Span)→Option (Except (Value×volume_reader) ((List api_Span)×volume_reader)))) (a1:(List api_Span)) (a0:(api_Span×volume_reader)):Option (Except (Value×volume_reader) ((List api_Span)×volume_reader)) :=
  (apd 16 a1 ([(api_Span.mk a0.1.Lo a0.1.Hi)])).bind fun a2 =>
  k2 a0.1.Lo a0.1.Hi a0.2.b a2
def Ch (F:Nat) (p1:Int) (a3:Int) (a4:Int) (k2:(Int→Int→(List Int)→(List api_Span)→Option (Except (Value×volume_reader) ((List api_Span)×volume_reader)))) (a5:(Int×volume_reader)) (a1:(List api_Span)):Option (Except (Value×volume_reader) ((List api_Span)×volume_reader)) :=
  bif (decide (((a1.length:Nat):Int)<p1)) then ((Bu F (volume_reader.mk a5.2.b)).bind fun a6 =>
  exc a6 (fun a2=>some (.error (a2.1,(volume_reader.mk a2.2.b)))) fun a0 =>
  bif (((a0.1.Lo:Int)==a3)&&(((a0.1.Hi:Int)==a4)&&true)) then (some (.error (.iface 128 (.int .i64 7),(volume_reader.mk a0.2.b)))) else (Dr k2 a1 a0)) else (k2 a3 a4 a5.2.b a1)
def Dp (F:Nat) (p1:Int) (a1:Int) (a2:Int) (k2:(Int→Int→(List Int)→(List api_Span)→Option (Except (Value×volume_reader) ((List api_Span)×volume_reader)))) (a4:(Int×volume_reader)) (k6:(Int→(List api_Span)→Option (Except (Value×volume_reader) ((List api_Span)×volume_reader)))) (a3:Int) (a0:(List api_Span)):Option (Except (Value×volume_reader) ((List api_Span)×volume_reader)) :=
  bif (decide (a3<a4.1)) then ((apd 16 a0 ([(api_Span.mk a1 a2)])).bind fun a5 =>
  (ck (a3+1)).bind fun a6 =>
  k6 a6 a5) else (Ch F p1 a1 a2 k2 a4 a0)
def Bd (F:Nat) (p1:Int) (a0:Int) (a1:Int) (k2:(Int→Int→(List Int)→(List api_Span)→Option (Except (Value×volume_reader) ((List api_Span)×volume_reader)))) (a2:(Int×volume_reader)):Nat→Int→(List api_Span)→Option (Except (Value×volume_reader) ((List api_Span)×volume_reader))
  | 0,_,_=>none
  | n+1,a4,a3=>Dp F p1 a0 a1 k2 a2 (Bd F p1 a0 a1 k2 a2 n) a4 a3
def Dq (F:Nat) (p1:Int) (a1:Int) (a2:Int) (a0:(List api_Span)) (k2:(Int→Int→(List Int)→(List api_Span)→Option (Except (Value×volume_reader) ((List api_Span)×volume_reader)))) (a3:(Int×volume_reader)):Option (Except (Value×volume_reader) ((List api_Span)×volume_reader)) :=
  Bd F p1 a1 a2 k2 a3 F 0 a0
def Cf (F:Nat) (p1:Int) (k2:(Int→Int→(List Int)→(List api_Span)→Option (Except (Value×volume_reader) ((List api_Span)×volume_reader)))) (a4:Int) (a5:Int) (a3:(List Int)) (a0:(List api_Span)):Option (Except (Value×volume_reader) ((List api_Span)×volume_reader)) :=
  bif (decide (((a0.length:Nat):Int)<p1)) then ((Af F (volume_reader.mk a3)).bind fun a7 =>
  exc a7 (fun a2=>some (.error (a2.1,(volume_reader.mk a2.2.b)))) fun a1 =>
  (ck (p1-((a0.length:Nat):Int))).bind fun a6 =>
  bif (decide (a1.1>a6)) then (some (.error (.iface 128 (.int .i64 7),(volume_reader.mk a1.2.b)))) else (Dq F p1 a4 a5 a0 k2 a1)) else (Cg a4 a5 a3 a0)
def B2 (F:Nat) (p1:Int):Nat→Int→Int→(List Int)→(List api_Span)→Option (Except (Value×volume_reader) ((List api_Span)×volume_reader))
  | 0,_,_,_,_=>none
  | n+1,a2,a3,a0,a1=>Cf F p1 (B2 F p1 n) a2 a3 a0 a1
def Cv (F:Nat) (p0:volume_reader) (p1:Int) (p2:api_Span):Option (Except (Value×volume_reader) ((List api_Span)×volume_reader)) :=
  B2 F p1 F p2.Lo p2.Hi p0.b ([])
def Fu (a0:(List Int)):Option (Except (Value×volume_reader) (volume_thing×volume_reader)) :=
  some (.error (.iface 128 (.int .i64 7),(volume_reader.mk a0)))
def Ek (a8:(ByteArray×volume_reader)) (a9:(Int×volume_reader)) (aA:(Int×volume_reader)) (a1:Int) (a2:Int) (a3:Int) (a4:Int) (a5:Int) (a6:Int) (a7:Int) (aB:((List api_Echo)×volume_reader)) (a0:(List (List api_Echo))):Option (Except (Value×volume_reader) (volume_thing×volume_reader)) :=
  some (.ok ((volume_thing.ic156 (volume_sweep.mk (api_Sweep.mk (api_Site.mk a8.1 a9.1 aA.1 a1 a2 a3 a4 a5) a6 a7 a0))),(volume_reader.mk aB.2.b)))
def Ft (aC:(ByteArray×volume_reader)) (aD:(Int×volume_reader)) (aE:(Int×volume_reader)) (a6:Int) (a7:Int) (a1:Int) (a8:Int) (a9:Int) (aA:Int) (aB:Int) (aF:((List api_Echo)×volume_reader)) (k4:((List (List api_Echo))→(List api_Echo)→Option (Except (Value×volume_reader) (volume_thing×volume_reader)))) (a2:(List (List api_Echo))) (a0:(List api_Echo)):Option (Except (Value×volume_reader) (volume_thing×volume_reader)) :=
  bif (decide (((a0.length:Nat):Int)>0)) then ((Gz a0 (0:Int) a1).bind fun a3 =>
  (apd 24 a2 ([a3])).bind fun a4 =>
  (Gz a0 a1 ((a0.length:Nat):Int)).bind fun a5 =>
  k4 a4 a5) else (Ek aC aD aE a6 a7 a1 a8 a9 aA aB aF a2)
def Cr (a7:(ByteArray×volume_reader)) (a8:(Int×volume_reader)) (a9:(Int×volume_reader)) (a0:Int) (a1:Int) (a2:Int) (a3:Int) (a4:Int) (a5:Int) (a6:Int) (aA:((List api_Echo)×volume_reader)):Nat→(List (List api_Echo))→(List api_Echo)→Option (Except (Value×volume_reader) (volume_thing×volume_reader))
  | 0,_,_=>none
  | n+1,aB,aC=>Ft a7 a8 a9 a0 a1 a2 a3 a4 a5 a6 aA (Cr a7 a8 a9 a0 a1 a2 a3 a4 a5 a6 aA n) aB aC
def Ej (F:Nat) (a7:(ByteArray×volume_reader)) (a8:(Int×volume_reader)) (a9:(Int×volume_reader)) (a4:Int) (a0:Int) (a1:Int) (a5:Int) (a6:Int) (aB:Int) (aC:Int) (a3:(List Int)):Option (Except (Value×volume_reader) (volume_thing×volume_reader)) :=
  (Fj F (api_Site.mk a7.1 a8.1 a9.1 a4 a0 a1 a5 a6)).bind fun aF =>
  (Hv F aF).bind fun aG =>
  exc aG (fun v_=>some (.error (v_,(volume_reader.mk a3)))) fun aI =>
  (ck (4*a0)).bind fun aD =>
  (ck (aD*a1)).bind fun aE =>
  (Cu F (volume_reader.mk a3) aE (api_Echo.mk 1 (api_Span.mk 0 0) ((api_Span.mk 0 0),(api_Span.mk 0 0)) 0 (api_Span.mk 0 0) (api_Span.mk 0 0) (api_Span.mk 0 0))).bind fun aH =>
  exc aH (fun a2=>some (.error (a2.1,(volume_reader.mk a2.2.b)))) fun aA =>
  Cr a7 a8 a9 a4 a0 a1 a5 a6 aB aC aA F ([]) aA.1
def Cs (F:Nat) (p0:volume_reader):Option (Except (Value×volume_reader) (volume_thing×volume_reader)) :=
  (Af F p0).bind fun bL =>
  exc bL (fun aK=>some (.error (aK.1,(volume_reader.mk aK.2.b)))) fun a0 =>
  bif (a0.1==1) then ((E5 F (volume_reader.mk a0.2.b)).bind fun bM =>
  exc bM (fun aL=>some (.error (aL.1,(volume_reader.mk aL.2.b)))) fun b0 =>
  (Bw F (volume_reader.mk b0.2.b)).bind fun bN =>
  exc bN (fun aM=>some (.error (aM.1,(volume_reader.mk aM.2.b)))) fun b1 =>
  (Bw F (volume_reader.mk b1.2.b)).bind fun bO =>
  exc bO (fun aN=>some (.error (aN.1,(volume_reader.mk aN.2.b)))) fun b2 =>
  (Af F (volume_reader.mk b2.2.b)).bind fun bP =>
  exc bP (fun aO=>some (.error (aO.1,(volume_reader.mk aO.2.b)))) fun b3 =>
  (Af F (volume_reader.mk b3.2.b)).bind fun bQ =>
  exc bQ (fun aP=>some (.error (aP.1,(volume_reader.mk aP.2.b)))) fun b4 =>
  (Af F (volume_reader.mk b4.2.b)).bind fun bR =>
  exc bR (fun aQ=>some (.error (aQ.1,(volume_reader.mk aQ.2.b)))) fun b5 =>
  (Af F (volume_reader.mk b5.2.b)).bind fun bS =>
  exc bS (fun a6=>some (.error (a6.1,(volume_reader.mk a6.2.b)))) fun aR =>
  (Af F (volume_reader.mk aR.2.b)).bind fun b7 =>
  exc b7 (fun a7=>some (.error (a7.1,(volume_reader.mk a7.2.b)))) fun aS =>
  (Af F (volume_reader.mk aS.2.b)).bind fun b8 =>
  exc b8 (fun a8=>some (.error (a8.1,(volume_reader.mk a8.2.b)))) fun aT =>
  (Af F (volume_reader.mk aT.2.b)).bind fun b9 =>
  exc b9 (fun a9=>some (.error (a9.1,(volume_reader.mk a9.2.b)))) fun aU =>
  Ej F b0 b1 b2 b3.1 b4.1 b5.1 aR.1 aS.1 aT.1 aU.1 aU.2.b) else (bif (a0.1==2) then ((E5 F (volume_reader.mk a0.2.b)).bind fun bA =>
  exc bA (fun aA=>some (.error (aA.1,(volume_reader.mk aA.2.b)))) fun aV =>
  (Af F (volume_reader.mk aV.2.b)).bind fun bB =>
  exc bB (fun aB=>some (.error (aB.1,(volume_reader.mk aB.2.b)))) fun aW =>
  (Bw F (volume_reader.mk aW.2.b)).bind fun bC =>
  exc bC (fun aC=>some (.error (aC.1,(volume_reader.mk aC.2.b)))) fun a3 =>
  (Bw F (volume_reader.mk a3.2.b)).bind fun bD =>
  exc bD (fun aD=>some (.error (aD.1,(volume_reader.mk aD.2.b)))) fun a4 =>
  (Af F (volume_reader.mk a4.2.b)).bind fun bE =>
  exc bE (fun aE=>some (.error (aE.1,(volume_reader.mk aE.2.b)))) fun a5 =>
  (Af F (volume_reader.mk a5.2.b)).bind fun bF =>
  exc bF (fun aF=>some (.error (aF.1,(volume_reader.mk aF.2.b)))) fun a2 =>
  (Af F (volume_reader.mk a2.2.b)).bind fun bG =>
  exc bG (fun aG=>some (.error (aG.1,(volume_reader.mk aG.2.b)))) fun a1 =>
  (Hv F (Bn (api_Grid.mk a3.1 a4.1 a5.1 a2.1 a1.1))).bind fun bH =>
  exc bH (fun v_=>some (.error (v_,(volume_reader.mk a1.2.b)))) fun bT =>
  (ck (a2.1*a1.1)).bind fun b6 =>
  (Cv F (volume_reader.mk a1.2.b) b6 (api_Span.mk 0 0)).bind fun bI =>
  exc bI (fun aH=>some (.error (aH.1,(volume_reader.mk aH.2.b)))) fun aX =>
  some (.ok ((volume_thing.ic158 (volume_field.mk aV.1 aW.1 (api_Field.mk (api_Grid.mk a3.1 a4.1 a5.1 a2.1 a1.1) aX.1))),(volume_reader.mk aX.2.b)))) else (bif (a0.1==3) then ((Af F (volume_reader.mk a0.2.b)).bind fun bJ =>
  exc bJ (fun aI=>some (.error (aI.1,(volume_reader.mk aI.2.b)))) fun aY =>
  (E5 F (volume_reader.mk aY.2.b)).bind fun bK =>
  exc bK (fun aJ=>some (.error (aJ.1,(volume_reader.mk aJ.2.b)))) fun aZ =>
  some (.ok ((volume_thing.ic160 (volume_note.mk aY.1 aZ.1)),(volume_reader.mk aZ.2.b)))) else (Fu a0.2.b)))
def Aw (p0:Int) (p1:Int) (p2:Int):Bool :=
  bif (decide (p1≤p0)) then (decide (p0≤p2)) else false
def Ad (p0:api_Span) (p1:Int) (p2:Int):Bool :=
  bif (bif (decide (p1≤p0.Lo)) then (decide (p0.Lo≤p0.Hi)) else false) then (decide (p0.Hi≤p2)) else false
def K6:Option Bool :=
  some true
def Gh (p0:(List api_Span)) (k2:(Int→Option Bool)) (a1:Int):Option Bool :=
  bif (decide (a1<((p0.length:Nat):Int))) then ((C5 p0 a1).bind fun a0 =>
  (gd (((!(Aw a0.Lo (-32768) 32767))==false&&true)) (ck (a0.Lo+65536)) 0).bind fun a2 =>
  (gd (((!(Aw a0.Lo (-32768) 32767))==false&&true)) (ck (a2-1)) 0).bind fun a3 =>
  bif (bif (!(Aw a0.Lo (-32768) 32767)) then true else (!(Aw a0.Hi a0.Lo a3))) then (some false) else ((ck (a1+1)).bind fun a4 =>
  k2 a4)) else (K6)
def Ei (p0:(List api_Span)):Nat→Int→Option Bool
  | 0,_=>none
  | n+1,a0=>Gh p0 (Ei p0 n) a0
def Kg (F:Nat) (p0:(List api_Span)):Option Bool :=
  Ei p0 F 0
def Dv (c7:Bool):Option Int :=
  bif (!c7) then (some 3) else (some 0)
def Cy (F:Nat) (p0:api_Echo) (c9:Bool):Option Int :=
  bif c9 then (bif (p0.Kind==2) then (Dv (bif (bif (bif (bif (bif (bif (Ad p0.Power 0 1073741824) then (decide (p0.Power.Lo>0)) else false) then (Ad p0.Ratio 0 1000000) else false) then (Ad p0.Match 0 1000) else false) then (Aw p0.Spread 0 65535) else false) then ((((p0.Steps.1.Lo:Int)==0)&&(((p0.Steps.1.Hi:Int)==0)&&true))&&((((p0.Steps.2.Lo:Int)==0)&&(((p0.Steps.2.Hi:Int)==0)&&true))&&true)) else false) then (((p0.Turn.Lo:Int)==0)&&(((p0.Turn.Hi:Int)==0)&&true)) else false)) else (bif (bif (bif (bif (bif (Ad p0.Power 0 1073741824) then (decide (p0.Power.Lo>0)) else false) then (Ad p0.Ratio 0 1000000) else false) then (Ad p0.Match 0 1000) else false) then (Aw p0.Spread 0 65535) else false) then ((Kg F ([(api_Span.mk p0.Steps.1.Lo p0.Steps.1.Hi),(api_Span.mk p0.Steps.2.Lo p0.Steps.2.Hi),p0.Turn])).bind fun a0 =>
  Dv a0) else (Dv false))) else (some 2)
def Fx (F:Nat) (p0:api_Echo):Option Int :=
  bif (p0.Kind==1) then (Dv (bif (Ad p0.Power 0 1073741824) then (((p0.Kind:Int)==1)&&((((p0.Power.Lo:Int)==0)&&(((p0.Power.Hi:Int)==p0.Power.Hi)&&true))&&(((((p0.Steps.1.Lo:Int)==0)&&(((p0.Steps.1.Hi:Int)==0)&&true))&&((((p0.Steps.2.Lo:Int)==0)&&(((p0.Steps.2.Hi:Int)==0)&&true))&&true))&&(((p0.Spread:Int)==0)&&((((p0.Ratio.Lo:Int)==0)&&(((p0.Ratio.Hi:Int)==0)&&true))&&((((p0.Match.Lo:Int)==0)&&(((p0.Match.Hi:Int)==0)&&true))&&((((p0.Turn.Lo:Int)==0)&&(((p0.Turn.Hi:Int)==0)&&true))&&true))))))) else false)) else (bif (p0.Kind==2) then (Cy F p0 (p0.Kind==2)) else (Cy F p0 (p0.Kind==3)))
def He:Option Int :=
  some 0
def Ew (a0:Int) (k3:(Int→Option Int)):Option Int :=
  (ck (a0+1)).bind fun a1 =>
  k3 a1
def G4 (F:Nat) (a4:Int) (k3:(Int→Option Int)) (a2:(List api_Echo)) (k5:(Int→Option Int)) (a1:Int):Option Int :=
  bif (decide (a1<((a2.length:Nat):Int))) then ((C5 a2 a1).bind fun a0 =>
  (Fx F (api_Echo.mk a0.Kind a0.Power ((api_Span.mk a0.Steps.1.Lo a0.Steps.1.Hi),(api_Span.mk a0.Steps.2.Lo a0.Steps.2.Hi)) a0.Spread a0.Ratio a0.Match a0.Turn)).bind fun a3 =>
  bif (a3 != 0) then (some a3) else ((ck (a1+1)).bind fun a5 =>
  k5 a5)) else (Ew a4 k3)
def Cp (F:Nat) (a1:Int) (k3:(Int→Option Int)) (a0:(List api_Echo)):Nat→Int→Option Int
  | 0,_=>none
  | n+1,a2=>G4 F a1 k3 a0 (Cp F a1 k3 a0 n) a2
def G3 (F:Nat) (p0:api_Sweep) (k3:(Int→Option Int)) (a0:Int):Option Int :=
  bif (decide (a0<((p0.Rays.length:Nat):Int))) then ((C5 p0.Rays a0).bind fun a1 =>
  Cp F a0 k3 a1 F 0) else (He)
def Co (F:Nat) (p0:api_Sweep):Nat→Int→Option Int
  | 0,_=>none
  | n+1,a0=>G3 F p0 (Co F p0 n) a0
def G6 (F:Nat) (p0:api_Sweep):Option Int :=
  Co F p0 F 0
def G5 (F:Nat) (p0:api_Sweep) (k6:(Int→Option Int)) (a0:Int):Option Int :=
  bif (decide (a0<((p0.Rays.length:Nat):Int))) then ((C5 p0.Rays a0).bind fun a1 =>
  bif (((a1.length:Nat):Int) != p0.Site.Gates) then (some 11) else ((ck (a0+1)).bind fun a2 =>
  k6 a2)) else (G6 F p0)
def De (F:Nat) (p0:api_Sweep):Nat→Int→Option Int
  | 0,_=>none
  | n+1,a0=>G5 F p0 (De F p0 n) a0
def Bx (F:Nat) (p0:api_Sweep):Option Int :=
  (Fj F p0.Site).bind fun y6 =>
  bif (y6 != 0) then (some y6) else (bif (bif (!(Aw p0.Tilt 0 256)) then true else (!(Aw p0.Time 0 4294967296))) then (some 3) else ((ck (4*p0.Site.Rose)).bind fun x7 =>
  bif (((p0.Rays.length:Nat):Int) != x7) then (some 11) else (De F p0 F 0)))
def Bz (F:Nat) (p0:volume_sweep):Option Int :=
  (Bx F p0.Sweep).bind fun y6 =>
  some y6
def M6:Option Int :=
  some 0
def Kf (p0:api_Field) (p1:Int) (k2:(Int→Option Int)) (a1:Int):Option Int :=
  bif (decide (a1<((p0.Vals.length:Nat):Int))) then ((C5 p0.Vals a1).bind fun a0 =>
  bif (bif (bif (decide (a0.Lo<0)) then true else (decide (a0.Hi<a0.Lo))) then true else (decide (a0.Hi>p1))) then (some 3) else ((ck (a1+1)).bind fun a2 =>
  k2 a2)) else (M6)
def Gd (p0:api_Field) (p1:Int):Nat→Int→Option Int
  | 0,_=>none
  | n+1,a0=>Kf p0 p1 (Gd p0 p1 n) a0
def N8 (F:Nat) (p0:api_Field) (p1:Int):Option Int :=
  bif ((Bn p0.Grid) != 0) then (some (Bn p0.Grid)) else ((ck (p0.Grid.Wide*p0.Grid.High)).bind fun x5 =>
  bif (((p0.Vals.length:Nat):Int) != x5) then (some 11) else (Gd p0 p1 F 0))
def Fv (F:Nat) (p0:api_Field):Option Int :=
  (N8 F p0 1073741824).bind fun y5 =>
  some y5
def B5 (F:Nat) (p0:volume_field):Option Int :=
  (N4 F p0.key).bind fun y5 =>
  bif (!y5) then (some 10) else (bif (bif (decide (p0.time<0)) then true else (decide (p0.time>4294967296))) then (some 3) else ((Fv F p0.Field).bind fun y6 =>
  some y6))
def H7:Option Int :=
  some 0
def Fp (a1:(List Int)) (k2:(Int→Option Int)) (a0:Int):Option Int :=
  bif (decide (a0<((a1.length:Nat):Int))) then ((C5 a1 a0).bind fun a2 =>
  bif (bif (decide (a2<32)) then true else (decide (a2>126))) then (some 7) else ((ck (a0+1)).bind fun a3 =>
  k2 a3)) else (H7)
def Ca (a0:(List Int)):Nat→Int→Option Int
  | 0,_=>none
  | n+1,a1=>Fp a0 (Ca a0 n) a1
def Bb (F:Nat) (p0:volume_note):Option Int :=
  bif (bif (decide (p0.time<0)) then true else (decide (p0.time>4294967296))) then (some 3) else (bif (decide (((p0.text.size:Nat):Int)>200)) then (some 8) else ((s2b p0.text).bind fun a0 =>
  Ca a0 F 0))
def Dw (F:Nat) (p0:volume_thing):Option Int:=p0.cs none (fun y=>Bz F y) (fun y=>B5 F y) (fun y=>Bb F y)
def Jo (F:Nat) (p0:(List Int)):Option (volume_thing×Int) :=
  (Dj F (volume_reader.mk p0)).bind fun y7 =>
  bif (!y7.2.1) then (some (volume_thing.nil_,15)) else ((ck (y7.1+5)).bind fun a5 =>
  bif (((y7.2.2.b.length:Nat):Int) != a5) then (some (volume_thing.nil_,15)) else ((ck (((p0.length:Nat):Int)-5)).bind fun a6 =>
  (Gz p0 a6 ((p0.length:Nat):Int)).bind fun a2 =>
  (ck (((p0.length:Nat):Int)-5)).bind fun a7 =>
  (Gz p0 (0:Int) a7).bind fun a3 =>
  (Kw F a3).bind fun a8 =>
  bif (!(Gy a2 a8)) then (some (volume_thing.nil_,15)) else ((Gz y7.2.2.b (0:Int) y7.1).bind fun a4 =>
  (Cs F (volume_reader.mk a4)).bind fun a9 =>
  exc a9 (fun a1=>(asI 128 .i64 a1.1).bind fun aC =>
  some (volume_thing.nil_,aC)) fun a0 =>
  (Dw F a0.1).bind fun aA =>
  (Hv F aA).bind fun aB =>
  exc aB (fun v_=>(asI 128 .i64 v_).bind fun aD =>
  some (volume_thing.nil_,aD)) fun aE =>
  bif (decide (((a0.2.b.length:Nat):Int)>0)) then (some (volume_thing.nil_,7)) else (some (a0.1,0)))))
def K3 (F:Nat) (p0:(List Int)) (a1:Bool):Option Bool :=
  (Dj F (volume_reader.mk p0)).bind fun a0 =>
  bif a1 then (some true) else (bif a0.2.1 then ((ck (a0.1+5)).bind fun a2 =>
  some (decide (((a0.2.2.b.length:Nat):Int)<a2))) else (some false))
def Lm (F:Nat) (p0:(List Int)) (k2:(Int→Bool→Option Bool)) (a0:Int) (a1:Bool):Option Bool :=
  bif (decide (a0<((p0.length:Nat):Int))) then ((C5 p0 a0).bind fun a2 =>
  (ck (a0+1)).bind fun a3 =>
  k2 a3 (bif (bif a1 then (decide (a2≥128)) else false) then (decide (a2≤254)) else false)) else (K3 F p0 a1)
def Hs (F:Nat) (p0:(List Int)):Nat→Int→Bool→Option Bool
  | 0,_,_=>none
  | n+1,a1,a0=>Lm F p0 (Hs F p0 n) a1 a0
def Mp (F:Nat) (p0:(List Int)):Option Bool :=
  Hs F p0 F 0 true
def Av (p0:volume_sweep):volume_Item :=
  (volume_Item.mk 1 ByteArray.empty 0 p0.Sweep (api_Field.mk (api_Grid.mk 0 0 0 0 0) ([]:(List api_Span))) ByteArray.empty)
def Au (p0:volume_field):volume_Item :=
  (volume_Item.mk 2 p0.key p0.time (api_Sweep.mk (api_Site.mk ByteArray.empty 0 0 0 0 0 0 0) 0 0 ([]:(List (List api_Echo)))) p0.Field ByteArray.empty)
def Ay (p0:volume_note):volume_Item :=
  (volume_Item.mk 3 ByteArray.empty p0.time (api_Sweep.mk (api_Site.mk ByteArray.empty 0 0 0 0 0 0 0) 0 0 ([]:(List (List api_Echo)))) (api_Field.mk (api_Grid.mk 0 0 0 0 0) ([]:(List api_Span))) p0.text)
def Jq (F:Nat) (p0:volume_thing):Option volume_Item:=p0.cs none (fun y=>some (Av y)) (fun y=>some (Au y)) (fun y=>some (Ay y))
def Eu (a0:(List volume_Item)) (a1:Int) (a2:Int):Option ((List volume_Item)×Int×Int) :=
  bif (decide (((a0.length:Nat):Int)>1000)) then (some (([]:(List volume_Item)),0,9)) else (some (a0,a1,a2))
def Hq (F:Nat) (p0:(List Int)) (s_r:((List volume_Item)×Int×Int×Nat)) (x_:(Int×(List Int))):Option (((List volume_Item)×Int×Int×Nat)×Bool) :=
  (Jo F x_.2).bind fun a0 =>
  bif (a0.2 != 0) then ((ck (x_.1+1)).bind fun a3 =>
  (ck (a3+((x_.2.length:Nat):Int))).bind fun a1 =>
  (gd (((a1==((p0.length:Nat):Int))==true&&true)) (Mp F x_.2) default).bind fun a4 =>
  bif (bif (a1==((p0.length:Nat):Int)) then a4 else false) then (some ((s_r.1,x_.1,16,3),false)) else (some ((s_r.1,x_.1,a0.2,3),false))) else ((Jq F a0.1).bind fun a5 =>
  (apd 224 s_r.1 ([a5])).bind fun a2 =>
  some ((a2,s_r.2.1,s_r.2.2.1,0),true))
def K2 (tg_:Nat):Code:=(bif (tg_==3) then .exit 1 else .ret)
def Em (F:Nat) (p0:(List Int)):Option ((List volume_Item)×Int×Int) :=
  bif (decide (((p0.length:Nat):Int)>16777216)) then (some (([]:(List volume_Item)),0,8)) else ((Fw F p0 ([82,86,70,49])).bind fun y9 =>
  (gd (((decide (((p0.length:Nat):Int)>4))==true&&((!y9)==false&&true))) (C5 p0 4) default).bind fun a1 =>
  bif (bif (!y9) then true else (bif (decide (((p0.length:Nat):Int)>4)) then (a1 != 0) else false)) then (some (([]:(List volume_Item)),0,7)) else ((G1 F p0 (Hq F p0) (([]:List volume_Item),((p0.length:Nat):Int),0,0)).bind fun a0 =>
  bif a0.2 then (Eu a0.1.1 a0.1.2.1 a0.1.2.2.1) else (bif (a0.1.2.2.2==3) then (Eu a0.1.1 a0.1.2.1 a0.1.2.2.1) else (none))))
def Li (F:Nat) (s_r:((List volume_Item)×Int×Nat)) (x_:(Int×(List Int))):Option (((List volume_Item)×Int×Nat)×Bool) :=
  (Jo F x_.2).bind fun a0 =>
  bif (a0.2==0) then ((Jq F a0.1).bind fun a3 =>
  (apd 224 s_r.1 ([a3])).bind fun a1 =>
  some ((a1,s_r.2.1,0),true)) else ((ck (s_r.2.1+1)).bind fun a2 =>
  some ((s_r.1,a2,0),true))
def Lj (tg_:Nat):Code:=.ret
def P3 (F:Nat) (p0:(List Int)):Option ((List volume_Item)×Int×Int) :=
  bif (decide (((p0.length:Nat):Int)>16777216)) then (some (([]:(List volume_Item)),0,8)) else ((G1 F p0 (Li F) (([]:List volume_Item),0,0)).bind fun a0 =>
  bif a0.2 then (bif (decide (((a0.1.1.length:Nat):Int)>1000)) then (some (([]:(List volume_Item)),0,9)) else (some (a0.1.1,a0.1.2.1,0))) else (none))
def Dd (p0:volume_Item):volume_thing :=
  bif (p0.Kind==1) then (bif (bif (bif (bif (bif (!(sEq p0.Name ((Av (volume_sweep.mk p0.Sweep)).Name))) then true else (p0.Time != ((Av (volume_sweep.mk p0.Sweep)).Time))) then true else (!(sEq p0.Text ((Av (volume_sweep.mk p0.Sweep)).Text)))) then true else false) then true else (!(bif (((p0.Field.Grid.X:Int)==0)&&(((p0.Field.Grid.Y:Int)==0)&&(((p0.Field.Grid.Size:Int)==0)&&(((p0.Field.Grid.Wide:Int)==0)&&(((p0.Field.Grid.High:Int)==0)&&true))))) then (((p0.Field.Vals.length:Nat):Int)==0) else false))) then (volume_thing.nil_) else ((volume_thing.ic156 (volume_sweep.mk p0.Sweep)))) else (bif (p0.Kind==2) then (bif (bif (bif (bif (bif (!(sEq p0.Name ((Au (volume_field.mk p0.Name p0.Time p0.Field)).Name))) then true else (p0.Time != ((Au (volume_field.mk p0.Name p0.Time p0.Field)).Time))) then true else (!(sEq p0.Text ((Au (volume_field.mk p0.Name p0.Time p0.Field)).Text)))) then true else (!(bif (bif (bif ((p0.Sweep.Site.Name==ByteArray.empty)&&(((p0.Sweep.Site.X:Int)==0)&&(((p0.Sweep.Site.Y:Int)==0)&&(((p0.Sweep.Site.Z:Int)==0)&&(((p0.Sweep.Site.Rose:Int)==0)&&(((p0.Sweep.Site.Gates:Int)==0)&&(((p0.Sweep.Site.Step:Int)==0)&&(((p0.Sweep.Site.Width:Int)==0)&&true)))))))) then (p0.Sweep.Tilt==0) else false) then (p0.Sweep.Time==0) else false) then (((p0.Sweep.Rays.length:Nat):Int)==0) else false))) then true else false) then (volume_thing.nil_) else ((volume_thing.ic158 (volume_field.mk p0.Name p0.Time p0.Field)))) else (bif (p0.Kind==3) then (bif (bif (bif (bif (bif (!(sEq p0.Name ((Ay (volume_note.mk p0.Time p0.Text)).Name))) then true else (p0.Time != ((Ay (volume_note.mk p0.Time p0.Text)).Time))) then true else (!(sEq p0.Text ((Ay (volume_note.mk p0.Time p0.Text)).Text)))) then true else (!(bif (bif (bif ((p0.Sweep.Site.Name==ByteArray.empty)&&(((p0.Sweep.Site.X:Int)==0)&&(((p0.Sweep.Site.Y:Int)==0)&&(((p0.Sweep.Site.Z:Int)==0)&&(((p0.Sweep.Site.Rose:Int)==0)&&(((p0.Sweep.Site.Gates:Int)==0)&&(((p0.Sweep.Site.Step:Int)==0)&&(((p0.Sweep.Site.Width:Int)==0)&&true)))))))) then (p0.Sweep.Tilt==0) else false) then (p0.Sweep.Time==0) else false) then (((p0.Sweep.Rays.length:Nat):Int)==0) else false))) then true else (!(bif (((p0.Field.Grid.X:Int)==0)&&(((p0.Field.Grid.Y:Int)==0)&&(((p0.Field.Grid.Size:Int)==0)&&(((p0.Field.Grid.Wide:Int)==0)&&(((p0.Field.Grid.High:Int)==0)&&true))))) then (((p0.Field.Vals.length:Nat):Int)==0) else false))) then (volume_thing.nil_) else ((volume_thing.ic160 (volume_note.mk p0.Time p0.Text)))) else (volume_thing.nil_)))
def Fo (F:Nat) (p0:volume_Item):Option (volume_thing×Int) :=
  volume_thing.cs (Dd p0) (some (volume_thing.nil_,2)) (fun a0=>(Bz F a0).bind fun a1 =>
  some ((volume_thing.ic156 a0),a1)) (fun a0=>(B5 F a0).bind fun a2 =>
  some ((volume_thing.ic158 a0),a2)) (fun a0=>(Bb F a0).bind fun a3 =>
  some ((volume_thing.ic160 a0),a3))
def Ff (a1:Int) (k1:((List Int)→Int→Option volume_writer)) (a0:(List Int)):Option volume_writer :=
  (ck (a1+1)).bind fun a2 =>
  k1 a0 a2
def Fg (a2:Int) (k1:((List Int)→Int→Option volume_writer)) (a0:(List Int)) (a3:Int):Option volume_writer :=
  (ck (1+a3)).bind fun a4 =>
  (apd 1 a0 ([IntKind.u8.wrap a4])).bind fun a1 =>
  Ff a2 k1 a1
def Fe (a3:Int) (k1:((List Int)→Int→Option volume_writer)) (k4:((List Int)→Int→Option volume_writer)) (a1:(List Int)) (a0:Int):Option volume_writer :=
  bif (decide (a0≥127)) then ((Nw a0 127).bind fun a4 =>
  (ck (128+a4)).bind fun a5 =>
  (apd 1 a1 ([IntKind.u8.wrap a5])).bind fun a2 =>
  (Mr a0 127).bind fun a6 =>
  k4 a2 a6) else (Fg a3 k1 a1 a0)
def D9 (a0:Int) (k1:((List Int)→Int→Option volume_writer)):Nat→(List Int)→Int→Option volume_writer
  | 0,_,_=>none
  | n+1,a1,a2=>Fe a0 k1 (D9 a0 k1 n) a1 a2
def Fc (F:Nat) (p1:(List Int)) (k1:((List Int)→Int→Option volume_writer)) (a1:(List Int)) (a0:Int):Option volume_writer :=
  bif (decide (a0<((p1.length:Nat):Int))) then ((C5 p1 a0).bind fun a2 =>
  D9 a0 k1 F a1 a2) else (some (volume_writer.mk a1))
def D8 (F:Nat) (p1:(List Int)):Nat→(List Int)→Int→Option volume_writer
  | 0,_,_=>none
  | n+1,a0,a1=>Fc F p1 (D8 F p1 n) a0 a1
def Ao (F:Nat) (p0:volume_writer) (p1:(List Int)):Option volume_writer :=
  D8 F p1 F p0.b 0
def E7 (F:Nat) (p0:volume_writer) (p1:ByteArray):Option volume_writer :=
  (Ao F p0 ([((p1.size:Nat):Int)])).bind fun y8 =>
  (apd 1 y8.b (sby p1)).bind fun a0 =>
  some (volume_writer.mk a0)
def Cx (a1:Int) (k1:((List Int)→Int→Option volume_writer)) (a0:(List Int)):Option volume_writer :=
  (ck (a1+1)).bind fun a2 =>
  k1 a0 a2
def F4 (F:Nat) (p1:(List Int)) (k1:((List Int)→Int→Option volume_writer)) (a1:(List Int)) (a0:Int):Option volume_writer :=
  bif (decide (a0<((p1.length:Nat):Int))) then ((C5 p1 a0).bind fun a2 =>
  bif (decide (a2<0)) then ((ck ((-2)*a2)).bind fun a3 =>
  (ck (a3-1)).bind fun a4 =>
  (Ao F (volume_writer.mk a1) ([a4])).bind fun a6 =>
  Cx a0 k1 a6.b) else ((ck (2*a2)).bind fun a5 =>
  (Ao F (volume_writer.mk a1) ([a5])).bind fun a7 =>
  Cx a0 k1 a7.b)) else (some (volume_writer.mk a1))
def Bs (F:Nat) (p1:(List Int)):Nat→(List Int)→Int→Option volume_writer
  | 0,_,_=>none
  | n+1,a0,a1=>F4 F p1 (Bs F p1 n) a0 a1
def D2 (F:Nat) (p0:volume_writer) (p1:(List Int)):Option volume_writer :=
  Bs F p1 F p0.b 0
def E6 (F:Nat) (p0:volume_writer) (p1:api_Span):Option volume_writer :=
  (D2 F p0 ([p1.Lo])).bind fun y9 =>
  (ck (p1.Hi-p1.Lo)).bind fun a0 =>
  (Ao F y9 ([a0])).bind fun a1 =>
  some a1
def D0 (F:Nat) (p1:api_Echo) (k2:((List Int)→Int→Option volume_writer)) (a1:(List Int)) (a0:Int):Option volume_writer :=
  bif (decide (a0<((3:Nat):Int))) then ((C5 ([(api_Span.mk p1.Steps.1.Lo p1.Steps.1.Hi),(api_Span.mk p1.Steps.2.Lo p1.Steps.2.Hi),p1.Turn]) a0).bind fun a2 =>
  (E6 F (volume_writer.mk a1) a2).bind fun a4 =>
  (ck (a0+1)).bind fun a3 =>
  k2 a4.b a3) else (some (volume_writer.mk a1))
def C8 (F:Nat) (p1:api_Echo):Nat→(List Int)→Int→Option volume_writer
  | 0,_,_=>none
  | n+1,a0,a1=>D0 F p1 (C8 F p1 n) a0 a1
def Gb (F:Nat) (p1:api_Echo) (a1:(List Int)):Option volume_writer :=
  (Ao F (volume_writer.mk a1) ([p1.Spread])).bind fun a0 =>
  bif (p1.Kind==3) then (C8 F p1 F a0.b 0) else (some a0)
def D1 (F:Nat) (p1:api_Echo) (k3:((List Int)→Int→Option volume_writer)) (a1:(List Int)) (a0:Int):Option volume_writer :=
  bif (decide (a0<((3:Nat):Int))) then ((C5 ([p1.Power,p1.Ratio,p1.Match]) a0).bind fun a2 =>
  (E6 F (volume_writer.mk a1) a2).bind fun a4 =>
  (ck (a0+1)).bind fun a3 =>
  k3 a4.b a3) else (Gb F p1 a1)
def C9 (F:Nat) (p1:api_Echo):Nat→(List Int)→Int→Option volume_writer
  | 0,_,_=>none
  | n+1,a0,a1=>D1 F p1 (C9 F p1 n) a0 a1
def G8 (F:Nat) (p0:volume_writer) (p1:api_Echo):Option volume_writer :=
  (Ao F p0 ([p1.Kind])).bind fun y9 =>
  bif (p1.Kind==1) then ((Ao F y9 ([p1.Power.Hi])).bind fun a0 =>
  some a0) else (C9 F p1 F y9.b 0)
def C1 (F:Nat) (a7:Int) (a8:Int) (a9:Int) (aA:Int) (aB:Int) (aC:Int) (aD:Int) (aE:Int) (aF:Int) (aG:Int) (aH:Int) (aI:Int) (aJ:Int) (aK:Int) (a5:(List Int)) (a2:(List api_Echo)) (k1:(Int→Int→Int→Int→Int→Int→Int→Int→Int→Int→Int→Int→Int→Int→(List Int)→(List api_Echo)→Option volume_writer)) (a3:Int):Option volume_writer :=
  (Ao F (volume_writer.mk a5) ([a3])).bind fun a4 =>
  (Gz a2 a3 ((a2.length:Nat):Int)).bind fun a1 =>
  bif (decide (((a1.length:Nat):Int)>0)) then ((C5 a1 0).bind fun a0 =>
  (Gz a1 1 ((a1.length:Nat):Int)).bind fun a6 =>
  (G8 F a4 (api_Echo.mk a0.Kind a0.Power ((api_Span.mk a0.Steps.1.Lo a0.Steps.1.Hi),(api_Span.mk a0.Steps.2.Lo a0.Steps.2.Hi)) a0.Spread a0.Ratio a0.Match a0.Turn)).bind fun aL =>
  k1 a0.Kind a0.Power.Lo a0.Match.Lo a0.Match.Hi a0.Turn.Lo a0.Turn.Hi a0.Power.Hi a0.Steps.1.Lo a0.Steps.1.Hi a0.Steps.2.Lo a0.Steps.2.Hi a0.Spread a0.Ratio.Lo a0.Ratio.Hi aL.b a6) else (k1 a7 a8 a9 aA aB aC aD aE aF aG aH aI aJ aK a4.b a1)
def D3 (F:Nat) (a3:Int) (a4:Int) (a5:Int) (a6:Int) (a7:Int) (a8:Int) (a9:Int) (aA:Int) (aB:Int) (aC:Int) (aD:Int) (aE:Int) (aF:Int) (aG:Int) (aH:(List Int)) (a2:(List api_Echo)) (k1:(Int→Int→Int→Int→Int→Int→Int→Int→Int→Int→Int→Int→Int→Int→(List Int)→(List api_Echo)→Option volume_writer)) (k3:(Int→Option volume_writer)) (a1:Int):Option volume_writer :=
  (gd (((decide (a1<((a2.length:Nat):Int)))==true&&true)) (C5 a2 a1) default).bind fun a0 =>
  bif (bif (decide (a1<((a2.length:Nat):Int))) then (((a0.Kind:Int)==a3)&&((((a0.Power.Lo:Int)==a4)&&(((a0.Power.Hi:Int)==a9)&&true))&&(((((a0.Steps.1.Lo:Int)==aA)&&(((a0.Steps.1.Hi:Int)==aB)&&true))&&((((a0.Steps.2.Lo:Int)==aC)&&(((a0.Steps.2.Hi:Int)==aD)&&true))&&true))&&(((a0.Spread:Int)==aE)&&((((a0.Ratio.Lo:Int)==aF)&&(((a0.Ratio.Hi:Int)==aG)&&true))&&((((a0.Match.Lo:Int)==a5)&&(((a0.Match.Hi:Int)==a6)&&true))&&((((a0.Turn.Lo:Int)==a7)&&(((a0.Turn.Hi:Int)==a8)&&true))&&true))))))) else false) then ((ck (a1+1)).bind fun aI =>
  k3 aI) else (C1 F a3 a4 a5 a6 a7 a8 a9 aA aB aC aD aE aF aG aH a2 k1 a1)
def Bg (F:Nat) (a2:Int) (a3:Int) (a4:Int) (a5:Int) (a6:Int) (a7:Int) (a8:Int) (a9:Int) (aA:Int) (aB:Int) (aC:Int) (aD:Int) (aE:Int) (aF:Int) (a0:(List Int)) (a1:(List api_Echo)) (k1:(Int→Int→Int→Int→Int→Int→Int→Int→Int→Int→Int→Int→Int→Int→(List Int)→(List api_Echo)→Option volume_writer)):Nat→Int→Option volume_writer
  | 0,_=>none
  | n+1,aG=>D3 F a2 a3 a4 a5 a6 a7 a8 a9 aA aB aC aD aE aF a0 a1 k1 (Bg F a2 a3 a4 a5 a6 a7 a8 a9 aA aB aC aD aE aF a0 a1 k1 n) aG
def C0 (F:Nat) (k1:(Int→Int→Int→Int→Int→Int→Int→Int→Int→Int→Int→Int→Int→Int→(List Int)→(List api_Echo)→Option volume_writer)) (a2:Int) (a3:Int) (a4:Int) (a5:Int) (a6:Int) (a7:Int) (a8:Int) (a9:Int) (aA:Int) (aB:Int) (aC:Int) (aD:Int) (aE:Int) (aF:Int) (a0:(List Int)) (a1:(List api_Echo)):Option volume_writer :=
  bif (decide (((a1.length:Nat):Int)>0)) then (Bg F a2 a3 a4 a5 a6 a7 a8 a9 aA aB aC aD aE aF a0 a1 k1 F 0) else (some (volume_writer.mk a0))
def B6 (F:Nat):Nat→Int→Int→Int→Int→Int→Int→Int→Int→Int→Int→Int→Int→Int→Int→(List Int)→(List api_Echo)→Option volume_writer
  | 0,_,_,_,_,_,_,_,_,_,_,_,_,_,_,_,_=>none
  | n+1,a2,a3,a4,a5,a6,a7,a8,a9,aA,aB,aC,aD,aE,aF,a0,a1=>C0 F (B6 F n) a2 a3 a4 a5 a6 a7 a8 a9 aA aB aC aD aE aF a0 a1
def Cl (F:Nat) (p0:volume_writer) (p1:(List api_Echo)) (p2:api_Echo):Option volume_writer :=
  B6 F F p2.Kind p2.Power.Lo p2.Match.Lo p2.Match.Hi p2.Turn.Lo p2.Turn.Hi p2.Power.Hi p2.Steps.1.Lo p2.Steps.1.Hi p2.Steps.2.Lo p2.Steps.2.Hi p2.Spread p2.Ratio.Lo p2.Ratio.Hi p0.b p1
def Gp (F:Nat) (a1:volume_writer) (a0:(List api_Echo)):Option volume_writer :=
  (Cl F a1 a0 (api_Echo.mk 1 (api_Span.mk 0 0) ((api_Span.mk 0 0),(api_Span.mk 0 0)) 0 (api_Span.mk 0 0) (api_Span.mk 0 0) (api_Span.mk 0 0))).bind fun a2 =>
  some a2
def Gn (F:Nat) (p0:volume_sweep) (a5:volume_writer) (k2:((List api_Echo)→Int→Option volume_writer)) (a1:(List api_Echo)) (a0:Int):Option volume_writer :=
  bif (decide (a0<((p0.Sweep.Rays.length:Nat):Int))) then ((C5 p0.Sweep.Rays a0).bind fun a3 =>
  (apd 112 a1 a3).bind fun a2 =>
  (ck (a0+1)).bind fun a4 =>
  k2 a2 a4) else (Gp F a5 a1)
def E9 (F:Nat) (p0:volume_sweep) (a0:volume_writer):Nat→(List api_Echo)→Int→Option volume_writer
  | 0,_,_=>none
  | n+1,a1,a2=>Gn F p0 a0 (E9 F p0 a0 n) a1 a2
def Gl (F:Nat) (p0:volume_sweep) (p1:volume_writer):Option volume_writer :=
  (Ao F p1 ([1])).bind fun a0 =>
  (E7 F a0 p0.Sweep.Site.Name).bind fun a1 =>
  (D2 F a1 ([p0.Sweep.Site.X,p0.Sweep.Site.Y])).bind fun a2 =>
  (Ao F a2 ([p0.Sweep.Site.Z,p0.Sweep.Site.Rose,p0.Sweep.Site.Gates,p0.Sweep.Site.Step,p0.Sweep.Site.Width,p0.Sweep.Tilt,p0.Sweep.Time])).bind fun a3 =>
  E9 F p0 a3 F ([]) 0
def C3 (F:Nat) (a7:Int) (a8:Int) (a5:(List Int)) (a2:(List api_Span)) (k1:(Int→Int→(List Int)→(List api_Span)→Option volume_writer)) (a3:Int):Option volume_writer :=
  (Ao F (volume_writer.mk a5) ([a3])).bind fun a4 =>
  (Gz a2 a3 ((a2.length:Nat):Int)).bind fun a0 =>
  bif (decide (((a0.length:Nat):Int)>0)) then ((C5 a0 0).bind fun a1 =>
  (Gz a0 1 ((a0.length:Nat):Int)).bind fun a6 =>
  (E6 F a4 a1).bind fun a9 =>
  k1 a1.Lo a1.Hi a9.b a6) else (k1 a7 a8 a4.b a0)
def D4 (F:Nat) (a3:Int) (a4:Int) (a5:(List Int)) (a1:(List api_Span)) (k1:(Int→Int→(List Int)→(List api_Span)→Option volume_writer)) (k3:(Int→Option volume_writer)) (a0:Int):Option volume_writer :=
  (gd (((decide (a0<((a1.length:Nat):Int)))==true&&true)) (C5 a1 a0) default).bind fun a2 =>
  bif (bif (decide (a0<((a1.length:Nat):Int))) then (((a2.Lo:Int)==a3)&&(((a2.Hi:Int)==a4)&&true)) else false) then ((ck (a0+1)).bind fun a6 =>
  k3 a6) else (C3 F a3 a4 a5 a1 k1 a0)
def Bh (F:Nat) (a2:Int) (a3:Int) (a0:(List Int)) (a1:(List api_Span)) (k1:(Int→Int→(List Int)→(List api_Span)→Option volume_writer)):Nat→Int→Option volume_writer
  | 0,_=>none
  | n+1,a4=>D4 F a2 a3 a0 a1 k1 (Bh F a2 a3 a0 a1 k1 n) a4
def C2 (F:Nat) (k1:(Int→Int→(List Int)→(List api_Span)→Option volume_writer)) (a2:Int) (a3:Int) (a0:(List Int)) (a1:(List api_Span)):Option volume_writer :=
  bif (decide (((a1.length:Nat):Int)>0)) then (Bh F a2 a3 a0 a1 k1 F 0) else (some (volume_writer.mk a0))
def B7 (F:Nat):Nat→Int→Int→(List Int)→(List api_Span)→Option volume_writer
  | 0,_,_,_,_=>none
  | n+1,a2,a3,a0,a1=>C2 F (B7 F n) a2 a3 a0 a1
def Cm (F:Nat) (p0:volume_writer) (p1:(List api_Span)) (p2:api_Span):Option volume_writer :=
  B7 F F p2.Lo p2.Hi p0.b p1
def Gj (F:Nat) (p0:volume_field) (p1:volume_writer):Option volume_writer :=
  (Ao F p1 ([2])).bind fun a0 =>
  (E7 F a0 p0.key).bind fun a1 =>
  (Ao F a1 ([p0.time])).bind fun a2 =>
  (D2 F a2 ([p0.Field.Grid.X,p0.Field.Grid.Y])).bind fun a3 =>
  (Ao F a3 ([p0.Field.Grid.Size,p0.Field.Grid.Wide,p0.Field.Grid.High])).bind fun a4 =>
  (Cm F a4 p0.Field.Vals (api_Span.mk 0 0)).bind fun a5 =>
  some a5
def H8 (F:Nat) (p0:volume_note) (p1:volume_writer):Option volume_writer :=
  (Ao F p1 ([3,p0.time])).bind fun y9 =>
  (E7 F y9 p0.text).bind fun a0 =>
  some a0
def Kx (F:Nat) (p0:volume_thing) (p1:volume_writer):Option volume_writer:=p0.cs none (fun y=>Gl F y p1) (fun y=>Gj F y p1) (fun y=>H8 F y p1)
def Kb (F:Nat) (p0:volume_thing):Option (List Int) :=
  (Kx F p0 (volume_writer.mk ([]:(List Int)))).bind fun y5 =>
  (Ao F (volume_writer.mk ([]:(List Int))) ([((y5.b.length:Nat):Int)])).bind fun a3 =>
  (apd 1 a3.b y5.b).bind fun a0 =>
  (Kw F a0).bind fun a4 =>
  (apd 1 a0 a4).bind fun a1 =>
  (apd 1 ([0]) a1).bind fun a2 =>
  some a2
def F2 (F:Nat) (p0:volume_Item):Option ((List Int)×Int) :=
  (Fo F p0).bind fun a0 =>
  bif (a0.2 != 0) then (some (([]:(List Int)),a0.2)) else ((Kb F a0.1).bind fun a1 =>
  some (a1,0))
def L5:Option Bool :=
  some true
def L4 (p0:(List Int)) (p1:(List Int)) (k2:(Int→Option Bool)) (a0:Int):Option Bool :=
  bif (decide (a0<((p0.length:Nat):Int))) then ((C5 p0 a0).bind fun a1 =>
  (C5 p1 a0).bind fun a2 =>
  bif (a1 != a2) then (some false) else ((ck (a0+1)).bind fun a3 =>
  k2 a3)) else (L5)
def Hm (p0:(List Int)) (p1:(List Int)):Nat→Int→Option Bool
  | 0,_=>none
  | n+1,a0=>L4 p0 p1 (Hm p0 p1 n) a0
def Js (F:Nat) (p0:(List Int)) (p1:(List Int)):Option Bool :=
  bif (((p0.length:Nat):Int) != ((p1.length:Nat):Int)) then (some false) else (Hm p0 p1 F 0)
def Mt (a0:(List Int)):Option ((List Int)×Int) :=
  bif (decide (((a0.length:Nat):Int)>16777216)) then (some (([]:(List Int)),8)) else (some (a0,0))
def Ms (F:Nat) (p0:(List volume_Item)) (k2:(Int→(List Int)→Option ((List Int)×Int))) (a0:Int) (a2:(List Int)):Option ((List Int)×Int) :=
  bif (decide (a0<((p0.length:Nat):Int))) then ((C5 p0 a0).bind fun a4 =>
  (F2 F a4).bind fun a1 =>
  bif (a1.2 != 0) then (some (([]:(List Int)),a1.2)) else ((apd 1 a2 a1.1).bind fun a3 =>
  (ck (a0+1)).bind fun a5 =>
  k2 a5 a3)) else (Mt a2)
def Kt (F:Nat) (p0:(List volume_Item)):Nat→Int→(List Int)→Option ((List Int)×Int)
  | 0,_,_=>none
  | n+1,a1,a0=>Ms F p0 (Kt F p0 n) a1 a0
def Qm (F:Nat) (p0:(List volume_Item)):Option ((List Int)×Int) :=
  bif (decide (((p0.length:Nat):Int)>1000)) then (some (([]:(List Int)),9)) else (Kt F p0 F 0 ([82,86,70,49]))
def Ni:Option Bool :=
  some true
def Nj (a1:Int) (k2:(Int→Option Bool)):Option Bool :=
  (ck (a1+1)).bind fun a0 =>
  k2 a0
def Nh (p0:api_Sweep) (p1:api_Sweep) (a3:Int) (k2:(Int→Option Bool)) (k4:(Int→Option Bool)) (a2:Int):Option Bool :=
  (C5 p0.Rays a3).bind fun a4 =>
  bif (decide (a2<((a4.length:Nat):Int))) then ((C5 p0.Rays a3).bind fun a5 =>
  (C5 a5 a2).bind fun a0 =>
  (C5 p1.Rays a3).bind fun a6 =>
  (C5 a6 a2).bind fun a1 =>
  bif (!(((a0.Kind:Int)==a1.Kind)&&((((a0.Power.Lo:Int)==a1.Power.Lo)&&(((a0.Power.Hi:Int)==a1.Power.Hi)&&true))&&(((((a0.Steps.1.Lo:Int)==a1.Steps.1.Lo)&&(((a0.Steps.1.Hi:Int)==a1.Steps.1.Hi)&&true))&&((((a0.Steps.2.Lo:Int)==a1.Steps.2.Lo)&&(((a0.Steps.2.Hi:Int)==a1.Steps.2.Hi)&&true))&&true))&&(((a0.Spread:Int)==a1.Spread)&&((((a0.Ratio.Lo:Int)==a1.Ratio.Lo)&&(((a0.Ratio.Hi:Int)==a1.Ratio.Hi)&&true))&&((((a0.Match.Lo:Int)==a1.Match.Lo)&&(((a0.Match.Hi:Int)==a1.Match.Hi)&&true))&&((((a0.Turn.Lo:Int)==a1.Turn.Lo)&&(((a0.Turn.Hi:Int)==a1.Turn.Hi)&&true))&&true)))))))) then (some false) else ((ck (a2+1)).bind fun a7 =>
  k4 a7)) else (Nj a3 k2)
def L9 (p0:api_Sweep) (p1:api_Sweep) (a0:Int) (k2:(Int→Option Bool)):Nat→Int→Option Bool
  | 0,_=>none
  | n+1,a1=>Nh p0 p1 a0 k2 (L9 p0 p1 a0 k2 n) a1
def Ng (F:Nat) (p0:api_Sweep) (p1:api_Sweep) (k2:(Int→Option Bool)) (a0:Int):Option Bool :=
  bif (decide (a0<((p0.Rays.length:Nat):Int))) then ((C5 p0.Rays a0).bind fun a1 =>
  (C5 p1.Rays a0).bind fun a2 =>
  bif (((a1.length:Nat):Int) != ((a2.length:Nat):Int)) then (some false) else (L9 p0 p1 a0 k2 F 0)) else (Ni)
def L8 (F:Nat) (p0:api_Sweep) (p1:api_Sweep):Nat→Int→Option Bool
  | 0,_=>none
  | n+1,a0=>Ng F p0 p1 (L8 F p0 p1 n) a0
def R2 (F:Nat) (p0:api_Sweep) (p1:api_Sweep):Option Bool :=
  bif (bif (bif (bif (!((p0.Site.Name==p1.Site.Name)&&(((p0.Site.X:Int)==p1.Site.X)&&(((p0.Site.Y:Int)==p1.Site.Y)&&(((p0.Site.Z:Int)==p1.Site.Z)&&(((p0.Site.Rose:Int)==p1.Site.Rose)&&(((p0.Site.Gates:Int)==p1.Site.Gates)&&(((p0.Site.Step:Int)==p1.Site.Step)&&(((p0.Site.Width:Int)==p1.Site.Width)&&true))))))))) then true else (p0.Tilt != p1.Tilt)) then true else (p0.Time != p1.Time)) then true else (((p0.Rays.length:Nat):Int) != ((p1.Rays.length:Nat):Int))) then (some false) else (L8 F p0 p1 F 0)
def Nf:Option Bool :=
  some true
def Nd (p0:api_Field) (p1:api_Field) (k2:(Int→Option Bool)) (a0:Int):Option Bool :=
  bif (decide (a0<((p0.Vals.length:Nat):Int))) then ((C5 p0.Vals a0).bind fun a1 =>
  (C5 p1.Vals a0).bind fun a2 =>
  bif (!(((a1.Lo:Int)==a2.Lo)&&(((a1.Hi:Int)==a2.Hi)&&true))) then (some false) else ((ck (a0+1)).bind fun a3 =>
  k2 a3)) else (Nf)
def L6 (p0:api_Field) (p1:api_Field):Nat→Int→Option Bool
  | 0,_=>none
  | n+1,a0=>Nd p0 p1 (L6 p0 p1 n) a0
def R1 (F:Nat) (p0:api_Field) (p1:api_Field):Option Bool :=
  bif (bif (!(((p0.Grid.X:Int)==p1.Grid.X)&&(((p0.Grid.Y:Int)==p1.Grid.Y)&&(((p0.Grid.Size:Int)==p1.Grid.Size)&&(((p0.Grid.Wide:Int)==p1.Grid.Wide)&&(((p0.Grid.High:Int)==p1.Grid.High)&&true)))))) then true else (((p0.Vals.length:Nat):Int) != ((p1.Vals.length:Nat):Int))) then (some false) else (L6 p0 p1 F 0)
def Q7 (F:Nat) (p0:volume_Item) (p1:volume_Item):Option Bool :=
  (gd (((bif (bif (bif (p0.Kind==p1.Kind) then (sEq p0.Name p1.Name) else false) then (p0.Time==p1.Time) else false) then (sEq p0.Text p1.Text) else false)==true&&true)) (R2 F p0.Sweep p1.Sweep) default).bind fun a0 =>
  (gd (((bif (bif (bif (bif (p0.Kind==p1.Kind) then (sEq p0.Name p1.Name) else false) then (p0.Time==p1.Time) else false) then (sEq p0.Text p1.Text) else false) then a0 else false)==true&&true)) (R1 F p0.Field p1.Field) default).bind fun a1 =>
  some (bif (bif (bif (bif (bif (p0.Kind==p1.Kind) then (sEq p0.Name p1.Name) else false) then (p0.Time==p1.Time) else false) then (sEq p0.Text p1.Text) else false) then a0 else false) then a1 else false)
def Ht (F:Nat):Option Bool :=
  (F2 F (volume_Item.mk 3 ByteArray.empty 5 (api_Sweep.mk (api_Site.mk ByteArray.empty 0 0 0 0 0 0 0) 0 0 ([]:(List (List api_Echo)))) (api_Field.mk (api_Grid.mk 0 0 0 0 0) ([]:(List api_Span))) (⟨#[97]⟩:ByteArray))).bind fun y3 =>
  (Qm F ([(volume_Item.mk 3 ByteArray.empty 5 (api_Sweep.mk (api_Site.mk ByteArray.empty 0 0 0 0 0 0 0) 0 0 ([]:(List (List api_Echo)))) (api_Field.mk (api_Grid.mk 0 0 0 0 0) ([]:(List api_Span))) (⟨#[97]⟩:ByteArray))])).bind fun y9 =>
  (Em F y9.1).bind fun a4 =>
  bif (bif (bif (y3.2 != 0) then true else (y9.2 != 0)) then true else (a4.2.2 != 0)) then (some false) else ((Js F y3.1 ([0,5,4,6,2,97,183,135,165,144,1])).bind fun aD =>
  bif (!aD) then (some false) else ((apd 1 ([82,86,70,49]) y3.1).bind fun a7 =>
  (Js F y9.1 a7).bind fun aE =>
  bif (bif (bif (!aE) then true else (a4.2.1 != ((y9.1.length:Nat):Int))) then true else (((a4.1.length:Nat):Int) != 1)) then (some false) else ((C5 a4.1 0).bind fun aA =>
  (Q7 F aA (volume_Item.mk 3 ByteArray.empty 5 (api_Sweep.mk (api_Site.mk ByteArray.empty 0 0 0 0 0 0 0) 0 0 ([]:(List (List api_Echo)))) (api_Field.mk (api_Grid.mk 0 0 0 0 0) ([]:(List api_Span))) (⟨#[97]⟩:ByteArray))).bind fun aF =>
  bif (!aF) then (some false) else ((C5 y9.1 8).bind fun aB =>
  (C5 y9.1 8).bind fun aG =>
  (X3 y9.1 8 (IntKind.u8.wrap (aB+1))).bind fun a8 =>
  (Em F a8).bind fun a3 =>
  (Em F ([82,86,70,49])).bind fun a1 =>
  (Em F ([82,86,70,49,0,5,4])).bind fun a2 =>
  (Em F ([82,86,70,50])).bind fun a5 =>
  (apd 1 ([120,0,121]) y3.1).bind fun a6 =>
  (P3 F a6).bind fun a0 =>
  bif (bif (bif (bif (bif (bif (bif (bif (bif (bif (a3.2.2==15) then (a1.2.2==0) else false) then (a2.2.2==16) else false) then (a5.2.2==7) else false) then (a0.2.2==0) else false) then (a3.2.1==4) else false) then (((a1.1.length:Nat):Int)==0) else false) then (a1.2.1==4) else false) then (a2.2.1==4) else false) then (((a0.1.length:Nat):Int)==1) else false) then ((C5 a0.1 0).bind fun a9 =>
  (Q7 F a9 (volume_Item.mk 3 ByteArray.empty 5 (api_Sweep.mk (api_Site.mk ByteArray.empty 0 0 0 0 0 0 0) 0 0 ([]:(List (List api_Echo)))) (api_Field.mk (api_Grid.mk 0 0 0 0 0) ([]:(List api_Span))) (⟨#[97]⟩:ByteArray))).bind fun aC =>
  some (bif (bif (bif (bif (bif (bif (bif (bif (bif (bif (bif (a3.2.2==15) then (a1.2.2==0) else false) then (a2.2.2==16) else false) then (a5.2.2==7) else false) then (a0.2.2==0) else false) then (a3.2.1==4) else false) then (((a1.1.length:Nat):Int)==0) else false) then (a1.2.1==4) else false) then (a2.2.1==4) else false) then (((a0.1.length:Nat):Int)==1) else false) then aC else false) then (a0.2.1==1) else false)) else (some (bif (bif (bif (bif (bif (bif (bif (bif (bif (bif (bif (a3.2.2==15) then (a1.2.2==0) else false) then (a2.2.2==16) else false) then (a5.2.2==7) else false) then (a0.2.2==0) else false) then (a3.2.1==4) else false) then (((a1.1.length:Nat):Int)==0) else false) then (a1.2.1==4) else false) then (a2.2.1==4) else false) then (((a0.1.length:Nat):Int)==1) else false) then false else false) then (a0.2.1==1) else false))))))
def Qg (a0:Int):Option Int :=
  some a0
def Mx (p0:(List Int)) (k2:(Int→Option Int)) (a0:Int):Option Int :=
  (gd (((decide (a0<((p0.length:Nat):Int)))==true&&true)) (C5 p0 a0) default).bind fun a1 =>
  bif (bif (decide (a0<((p0.length:Nat):Int))) then (a1 != 0) else false) then ((ck (a0+1)).bind fun a2 =>
  k2 a2) else (Qg a0)
def K9 (p0:(List Int)):Nat→Int→Option Int
  | 0,_=>none
  | n+1,a0=>Mx p0 (K9 p0 n) a0
def Rt (F:Nat) (p0:(List Int)) (p1:Int):Option Int :=
  K9 p0 F p1
def Eh:Option (Int×ref12_reader) :=
  some (0,(ref12_reader.mk ([]:(List Int)) true))
def Fs (p0:ref12_reader) (k2:(Int→Int→Int→Option (Int×ref12_reader))) (a3:Int) (a2:Int) (a1:Int):Option (Int×ref12_reader) :=
  bif (bif (decide (a1<((p0.b.length:Nat):Int))) then (decide (a1<8)) else false) then ((C5 p0.b a1).bind fun a5 =>
  (ck a5).bind fun a0 =>
  bif (bif (bif (decide (a0≥1)) then (decide (a0≤127)) else false) then (bif (a1==0) then true else (decide (a0>1))) else false) then ((ck (a1+1)).bind fun a6 =>
  (Gz p0.b a6 ((p0.b.length:Nat):Int)).bind fun a4 =>
  (ck (a0-1)).bind fun a7 =>
  (ck (a7*a2)).bind fun a8 =>
  (ck (a3+a8)).bind fun a9 =>
  some (a9,(ref12_reader.mk a4 p0.bad))) else (bif (bif (decide (a0<128)) then true else (decide (a0>254))) then (Eh) else ((ck (a0-128)).bind fun aA =>
  (ck (aA*a2)).bind fun aB =>
  (ck (a3+aB)).bind fun aC =>
  (ck (a2*127)).bind fun aD =>
  (ck (a1+1)).bind fun aE =>
  k2 aC aD aE))) else (Eh)
def Cq (p0:ref12_reader):Nat→Int→Int→Int→Option (Int×ref12_reader)
  | 0,_,_,_=>none
  | n+1,a0,a1,a2=>Fs p0 (Cq p0 n) a0 a1 a2
def Aa (F:Nat) (p0:ref12_reader):Option (Int×ref12_reader) :=
  Cq p0 F 0 1 0
def Pi:Option Bool :=
  some true
def Mb (p0:(List Int)) (p1:(List Int)) (k2:(Int→Option Bool)) (a0:Int):Option Bool :=
  bif (decide (a0<((p0.length:Nat):Int))) then ((C5 p0 a0).bind fun a1 =>
  (C5 p1 a0).bind fun a2 =>
  bif (a1 != a2) then (some false) else ((ck (a0+1)).bind fun a3 =>
  k2 a3)) else (Pi)
def Ji (p0:(List Int)) (p1:(List Int)):Nat→Int→Option Bool
  | 0,_=>none
  | n+1,a0=>Mb p0 p1 (Ji p0 p1 n) a0
def Nu (F:Nat) (p0:(List Int)) (p1:(List Int)):Option Bool :=
  bif (((p0.length:Nat):Int) != ((p1.length:Nat):Int)) then (some false) else (Ji p0 p1 F 0)
def N0 (a2:Int) (a0:(List Int)):Option (List Int) :=
  (ck (1+a2)).bind fun a3 =>
  (apd 1 a0 ([IntKind.u8.wrap a3])).bind fun a1 =>
  some a1
def Lf (k3:(Int→(List Int)→Int→Option (List Int))) (a0:Int) (a1:(List Int)) (a2:Int):Option (List Int) :=
  bif (decide (a2<4)) then ((Nw a0 127).bind fun a4 =>
  (ck (128+a4)).bind fun a5 =>
  (apd 1 a1 ([IntKind.u8.wrap a5])).bind fun a3 =>
  (Mr a0 127).bind fun a6 =>
  (ck (a2+1)).bind fun a7 =>
  k3 a6 a3 a7) else (N0 a0 a1)
def Gc:Nat→Int→(List Int)→Int→Option (List Int)
  | 0,_,_,_=>none
  | n+1,a1,a0,a2=>Lf (Gc n) a1 a0 a2
def Mz (F:Nat) (a0:Int):Option (List Int) :=
  Gc F a0 ([]) 0
def My (F:Nat) (p0:(List Int)) (k4:(Int→Int→Option (List Int))) (a1:Int) (a0:Int):Option (List Int) :=
  bif (decide (a0<((p0.length:Nat):Int))) then ((ck (31*a1)).bind fun a3 =>
  (C5 p0 a0).bind fun a2 =>
  (ck a2).bind fun a4 =>
  (ck (a3+a4)).bind fun a5 =>
  (Nw a5 2147483647).bind fun a6 =>
  (ck (a0+1)).bind fun a7 =>
  k4 a6 a7) else (Mz F a1)
def Ka (F:Nat) (p0:(List Int)):Nat→Int→Int→Option (List Int)
  | 0,_,_=>none
  | n+1,a0,a1=>My F p0 (Ka F p0 n) a0 a1
def M3 (F:Nat) (p0:(List Int)):Option (List Int) :=
  Ka F p0 F 1 0
def Cj (p0:api_Sweep):Bool :=
  bif (bif (bif ((p0.Site.Name==ByteArray.empty)&&(((p0.Site.X:Int)==0)&&(((p0.Site.Y:Int)==0)&&(((p0.Site.Z:Int)==0)&&(((p0.Site.Rose:Int)==0)&&(((p0.Site.Gates:Int)==0)&&(((p0.Site.Step:Int)==0)&&(((p0.Site.Width:Int)==0)&&true)))))))) then (p0.Tilt==0) else false) then (p0.Time==0) else false) then (((p0.Rays.length:Nat):Int)==0) else false
def Dc (p0:api_Field):Bool :=
  bif (((p0.Grid.X:Int)==0)&&(((p0.Grid.Y:Int)==0)&&(((p0.Grid.Size:Int)==0)&&(((p0.Grid.Wide:Int)==0)&&(((p0.Grid.High:Int)==0)&&true))))) then (((p0.Vals.length:Nat):Int)==0) else false
def Ag (p0:Int) (p1:Int) (p2:Int):Bool :=
  bif (decide (p0≥p1)) then (decide (p0≤p2)) else false
def M9:Option Bool :=
  some true
def M8 (p0:ByteArray) (k2:(Int→Option Bool)) (a1:Int):Option Bool :=
  bif (decide (a1<((p0.size:Nat):Int))) then ((Qt p0 a1).bind fun a0 =>
  bif (bif (bif (bif (decide (a0<97)) then true else (decide (a0>122))) then (bif (decide (a0<48)) then true else (decide (a0>57))) else false) then (a0 != 95) else false) then (some false) else ((ck (a1+1)).bind fun a2 =>
  k2 a2)) else (M9)
def Jf (p0:ByteArray):Nat→Int→Option Bool
  | 0,_=>none
  | n+1,a0=>M8 p0 (Jf p0 n) a0
def Ju (F:Nat) (p0:ByteArray):Option Bool :=
  (gd (((bif (decide (((p0.size:Nat):Int)<1)) then true else (decide (((p0.size:Nat):Int)>12)))==false&&true)) (Qt p0 (0:Int)) default).bind fun u1 =>
  (gd (((bif (bif (decide (((p0.size:Nat):Int)<1)) then true else (decide (((p0.size:Nat):Int)>12))) then true else (decide (u1<97)))==false&&true)) (Qt p0 (0:Int)) default).bind fun u2 =>
  bif (bif (bif (bif (decide (((p0.size:Nat):Int)<1)) then true else (decide (((p0.size:Nat):Int)>12))) then true else (decide (u1<97))) then true else (decide (u2>122))) then (some false) else (Jf p0 F 0)
def F1 (F:Nat) (p0:api_Site):Option Int :=
  (Ju F p0.Name).bind fun y2 =>
  bif (!y2) then (some 10) else (bif (bif (bif (bif (bif (bif (bif (!(Ag p0.X (-1048576) 1048576)) then true else (!(Ag p0.Y (-1048576) 1048576))) then true else (!(Ag p0.Z 0 20000))) then true else (!(Ag p0.Rose 1 90))) then true else (!(Ag p0.Gates 1 200))) then true else (!(Ag p0.Step 50 2000))) then true else (!(Ag p0.Width 0 8))) then (some 3) else (some 0))
def Ct (p0:api_Span) (p1:Int) (p2:Int):Bool :=
  bif (bif (decide (p0.Lo≤p0.Hi)) then (decide (p0.Lo≥p1)) else false) then (decide (p0.Hi≤p2)) else false
def Jv (F:Nat) (p0:api_Span):Option Bool :=
  (gd (((Ag p0.Lo (-32768) 32767)==true&&true)) (ck (p0.Lo+65536)) 0).bind fun x2 =>
  (gd (((Ag p0.Lo (-32768) 32767)==true&&true)) (ck (x2-1)) 0).bind fun x3 =>
  some (bif (Ag p0.Lo (-32768) 32767) then (Ag p0.Hi p0.Lo x3) else false)
def J9 (F:Nat) (p0:api_Echo):Option Int :=
  bif (bif (bif (p0.Kind != 1) then (p0.Kind != 2) else false) then (p0.Kind != 3) else false) then (some 2) else (bif (!(Ct p0.Power 0 1073741824)) then (some 3) else (bif (p0.Kind==1) then (bif (bif (bif (bif (bif (bif (bif (p0.Power.Lo != 0) then true else (!(((p0.Steps.1.Lo:Int)==0)&&(((p0.Steps.1.Hi:Int)==0)&&true)))) then true else (!(((p0.Steps.2.Lo:Int)==0)&&(((p0.Steps.2.Hi:Int)==0)&&true)))) then true else (p0.Spread != 0)) then true else (!(((p0.Ratio.Lo:Int)==0)&&(((p0.Ratio.Hi:Int)==0)&&true)))) then true else (!(((p0.Match.Lo:Int)==0)&&(((p0.Match.Hi:Int)==0)&&true)))) then true else (!(((p0.Turn.Lo:Int)==0)&&(((p0.Turn.Hi:Int)==0)&&true)))) then (some 3) else (some 0)) else (bif (bif (bif (bif (decide (p0.Power.Lo<1)) then true else (!(Ct p0.Ratio 0 1000000))) then true else (!(Ct p0.Match 0 1000))) then true else (!(Ag p0.Spread 0 65535))) then (some 3) else (bif (p0.Kind==2) then (bif (bif (bif (!(((p0.Steps.1.Lo:Int)==0)&&(((p0.Steps.1.Hi:Int)==0)&&true))) then true else (!(((p0.Steps.2.Lo:Int)==0)&&(((p0.Steps.2.Hi:Int)==0)&&true)))) then true else (!(((p0.Turn.Lo:Int)==0)&&(((p0.Turn.Hi:Int)==0)&&true)))) then (some 3) else (some 0)) else ((Jv F (api_Span.mk p0.Steps.1.Lo p0.Steps.1.Hi)).bind fun y4 =>
  (gd (((!y4)==false&&true)) (Jv F (api_Span.mk p0.Steps.2.Lo p0.Steps.2.Hi)) default).bind fun y5 =>
  (gd (((bif (!y4) then true else (!y5))==false&&true)) (Jv F p0.Turn) default).bind fun y6 =>
  bif (bif (bif (!y4) then true else (!y5)) then true else (!y6)) then (some 3) else (some 0))))))
def Kd:Option Int :=
  some 0
def Hk (a0:Int) (k3:(Int→Option Int)):Option Int :=
  (ck (a0+1)).bind fun a1 =>
  k3 a1
def Hg (F:Nat) (p0:api_Sweep) (a1:Int) (k3:(Int→Option Int)) (k5:(Int→Option Int)) (a2:Int):Option Int :=
  (C5 p0.Rays a1).bind fun a4 =>
  bif (decide (a2<((a4.length:Nat):Int))) then ((C5 p0.Rays a1).bind fun a5 =>
  (C5 a5 a2).bind fun a0 =>
  (J9 F (api_Echo.mk a0.Kind a0.Power ((api_Span.mk a0.Steps.1.Lo a0.Steps.1.Hi),(api_Span.mk a0.Steps.2.Lo a0.Steps.2.Hi)) a0.Spread a0.Ratio a0.Match a0.Turn)).bind fun a3 =>
  bif (a3 != 0) then (some a3) else ((ck (a2+1)).bind fun a6 =>
  k5 a6)) else (Hk a1 k3)
def Ey (F:Nat) (p0:api_Sweep) (a0:Int) (k3:(Int→Option Int)):Nat→Int→Option Int
  | 0,_=>none
  | n+1,a1=>Hg F p0 a0 k3 (Ey F p0 a0 k3 n) a1
def Hf (F:Nat) (p0:api_Sweep) (k3:(Int→Option Int)) (a0:Int):Option Int :=
  bif (decide (a0<((p0.Rays.length:Nat):Int))) then (Ey F p0 a0 k3 F 0) else (Kd)
def Ex (F:Nat) (p0:api_Sweep):Nat→Int→Option Int
  | 0,_=>none
  | n+1,a0=>Hf F p0 (Ex F p0 n) a0
def Hj (F:Nat) (p0:api_Sweep):Option Int :=
  Ex F p0 F 0
def Hh (F:Nat) (p0:api_Sweep) (k6:(Int→Option Int)) (a0:Int):Option Int :=
  bif (decide (a0<((p0.Rays.length:Nat):Int))) then ((C5 p0.Rays a0).bind fun a1 =>
  bif (((a1.length:Nat):Int) != p0.Site.Gates) then (some 11) else ((ck (a0+1)).bind fun a2 =>
  k6 a2)) else (Hj F p0)
def Ez (F:Nat) (p0:api_Sweep):Nat→Int→Option Int
  | 0,_=>none
  | n+1,a0=>Hh F p0 (Ez F p0 n) a0
def El (F:Nat) (p0:api_Sweep):Option Int :=
  (F1 F p0.Site).bind fun y6 =>
  bif (y6 != 0) then (some y6) else (bif (bif (!(Ag p0.Tilt 0 256)) then true else (!(Ag p0.Time 0 4294967296))) then (some 3) else ((ck (4*p0.Site.Rose)).bind fun x7 =>
  bif (((p0.Rays.length:Nat):Int) != x7) then (some 11) else (Ez F p0 F 0)))
def C6 (p0:api_Grid):Int :=
  bif (bif (bif (bif (bif (!(Ag p0.X (-1048576) 1048576)) then true else (!(Ag p0.Y (-1048576) 1048576))) then true else (!(Ag p0.Size 1 10000))) then true else (!(Ag p0.Wide 1 64))) then true else (!(Ag p0.High 1 64))) then (3) else (0)
def Ph:Option Int :=
  some 0
def Ma (p0:api_Field) (p1:Int) (k2:(Int→Option Int)) (a0:Int):Option Int :=
  bif (decide (a0<((p0.Vals.length:Nat):Int))) then ((C5 p0.Vals a0).bind fun a1 =>
  bif (!(Ct a1 0 p1)) then (some 3) else ((ck (a0+1)).bind fun a2 =>
  k2 a2)) else (Ph)
def Jg (p0:api_Field) (p1:Int):Nat→Int→Option Int
  | 0,_=>none
  | n+1,a0=>Ma p0 p1 (Jg p0 p1 n) a0
def Qf (F:Nat) (p0:api_Field) (p1:Int):Option Int :=
  bif ((C6 p0.Grid) != 0) then (some (C6 p0.Grid)) else ((ck (p0.Grid.Wide*p0.Grid.High)).bind fun x5 =>
  bif (((p0.Vals.length:Nat):Int) != x5) then (some 11) else (Jg p0 p1 F 0))
def F7 (F:Nat) (p0:api_Field):Option Int :=
  (Qf F p0 1073741824).bind fun y5 =>
  some y5
def Nr:Option Int :=
  some 0
def Lc (p0:ref12_Item) (k2:(Int→Option Int)) (a0:Int):Option Int :=
  bif (decide (a0<((p0.Text.size:Nat):Int))) then ((Qt p0.Text a0).bind fun a1 =>
  (gd (((decide (a1<32))==false&&true)) (Qt p0.Text a0) default).bind fun a2 =>
  bif (bif (decide (a1<32)) then true else (decide (a2>126))) then (some 7) else ((ck (a0+1)).bind fun a3 =>
  k2 a3)) else (Nr)
def Fm (p0:ref12_Item):Nat→Int→Option Int
  | 0,_=>none
  | n+1,a0=>Lc p0 (Fm p0 n) a0
def Df (F:Nat) (p0:ref12_Item):Option Int :=
  bif (bif (bif (p0.Kind != 1) then (p0.Kind != 2) else false) then (p0.Kind != 3) else false) then (some 2) else (bif (bif (bif (bif (bif (p0.Kind != 1) then (!(Cj p0.Sweep)) else false) then true else (bif (p0.Kind != 2) then (bif (!(Dc p0.Field)) then true else (!(sEq p0.Name (⟨#[]⟩:ByteArray)))) else false)) then true else (bif (p0.Kind != 3) then (!(sEq p0.Text (⟨#[]⟩:ByteArray))) else false)) then true else (bif (p0.Kind==1) then (p0.Time != 0) else false)) then (some 2) else (bif (p0.Kind==1) then ((El F p0.Sweep).bind fun y9 =>
  some y9) else ((gd (((p0.Kind==2)==true&&true)) (Ju F p0.Name) default).bind fun a0 =>
  bif (bif (p0.Kind==2) then (!a0) else false) then (some 10) else (bif (!(Ag p0.Time 0 4294967296)) then (some 3) else (bif (p0.Kind==2) then ((F7 F p0.Field).bind fun a1 =>
  some a1) else (bif (decide (((p0.Text.size:Nat):Int)>200)) then (some 8) else (Fm p0 F 0)))))))
def Dl (F:Nat) (p0:ref12_reader):Option (ByteArray×ref12_reader) :=
  (Aa F p0).bind fun y4 =>
  bif (decide (y4.1>((y4.2.b.length:Nat):Int))) then (some ((⟨#[]⟩:ByteArray),(ref12_reader.mk y4.2.b true))) else ((Gz y4.2.b (0:Int) y4.1).bind fun a0 =>
  (Gz y4.2.b y4.1 ((y4.2.b.length:Nat):Int)).bind fun a1 =>
  some ((bst a0),(ref12_reader.mk a1 y4.2.bad)))
def B9 (F:Nat) (p0:ref12_reader):Option (Int×ref12_reader) :=
  (Aa F p0).bind fun y4 =>
  (Nw y4.1 2).bind fun a0 =>
  bif (a0==1) then ((ck (y4.1+1)).bind fun a1 =>
  (Mr (IntKind.i64.wrap (0-a1)) 2).bind fun a2 =>
  some (a2,(ref12_reader.mk y4.2.b y4.2.bad))) else ((Mr y4.1 2).bind fun a3 =>
  some (a3,(ref12_reader.mk y4.2.b y4.2.bad)))
def Er (F:Nat) (p0:ref12_reader) (p1:Int):Option (Int×ref12_reader) :=
  (Aa F p0).bind fun y4 =>
  bif (decide (y4.1>p1)) then (some (0,(ref12_reader.mk y4.2.b true))) else (some (y4.1,(ref12_reader.mk y4.2.b y4.2.bad)))
def Ci (F:Nat) (p0:ref12_reader):Option (api_Span×ref12_reader) :=
  (B9 F p0).bind fun y5 =>
  (Aa F (ref12_reader.mk y5.2.b y5.2.bad)).bind fun a0 =>
  (ck (y5.1+a0.1)).bind fun a1 =>
  some ((api_Span.mk y5.1 a1),(ref12_reader.mk a0.2.b a0.2.bad))
def J1 (F:Nat) (p0:ref12_reader):Option (api_Echo×ref12_reader) :=
  (Aa F p0).bind fun y5 =>
  bif (y5.1==1) then ((Aa F (ref12_reader.mk y5.2.b y5.2.bad)).bind fun a7 =>
  some ((api_Echo.mk y5.1 (api_Span.mk 0 a7.1) ((api_Span.mk 0 0),(api_Span.mk 0 0)) 0 (api_Span.mk 0 0) (api_Span.mk 0 0) (api_Span.mk 0 0)),(ref12_reader.mk a7.2.b a7.2.bad))) else ((Ci F (ref12_reader.mk y5.2.b y5.2.bad)).bind fun a0 =>
  (Ci F (ref12_reader.mk a0.2.b a0.2.bad)).bind fun a1 =>
  (Ci F (ref12_reader.mk a1.2.b a1.2.bad)).bind fun a2 =>
  (Aa F (ref12_reader.mk a2.2.b a2.2.bad)).bind fun a3 =>
  bif (y5.1==3) then ((Ci F (ref12_reader.mk a3.2.b a3.2.bad)).bind fun a4 =>
  (Ci F (ref12_reader.mk a4.2.b a4.2.bad)).bind fun a5 =>
  (Ci F (ref12_reader.mk a5.2.b a5.2.bad)).bind fun a6 =>
  some ((api_Echo.mk y5.1 (api_Span.mk a0.1.Lo a0.1.Hi) ((api_Span.mk a4.1.Lo a4.1.Hi),(api_Span.mk a5.1.Lo a5.1.Hi)) a3.1 (api_Span.mk a1.1.Lo a1.1.Hi) (api_Span.mk a2.1.Lo a2.1.Hi) (api_Span.mk a6.1.Lo a6.1.Hi)),(ref12_reader.mk a6.2.b a6.2.bad))) else (some ((api_Echo.mk y5.1 (api_Span.mk a0.1.Lo a0.1.Hi) ((api_Span.mk 0 0),(api_Span.mk 0 0)) a3.1 (api_Span.mk a1.1.Lo a1.1.Hi) (api_Span.mk a2.1.Lo a2.1.Hi) (api_Span.mk 0 0)),(ref12_reader.mk a3.2.b a3.2.bad))))
def Bp (a3:Int) (a4:Int) (a5:Int) (a6:Int) (a7:Int) (a8:Int) (a9:Int) (aA:Int) (aB:Int) (aC:Int) (aD:Int) (aE:Int) (aF:Int) (aG:Int) (a1:(List Int)) (a0:Bool) (a2:(List api_Echo)):Option ((List api_Echo)×ref12_reader) :=
  some (a2,(ref12_reader.mk a1 a0))
def Eg (F:Nat) (p1:Int) (a3:Int) (a4:Int) (a5:Int) (a6:Int) (a7:Int) (a8:Int) (a9:Int) (aA:Int) (aB:Int) (aC:Int) (aD:Int) (aE:Int) (aF:Int) (aG:Int) (k2:(Int→Int→Int→Int→Int→Int→Int→Int→Int→Int→Int→Int→Int→Int→(List Int)→Bool→(List api_Echo)→Option ((List api_Echo)×ref12_reader))) (a1:(Int×ref12_reader)) (a2:(List api_Echo)):Option ((List api_Echo)×ref12_reader) :=
  bif (decide (((a2.length:Nat):Int)<p1)) then ((J1 F (ref12_reader.mk a1.2.b a1.2.bad)).bind fun a0 =>
  (apd 112 a2 ([(api_Echo.mk a0.1.Kind (api_Span.mk a0.1.Power.Lo a0.1.Power.Hi) ((api_Span.mk a0.1.Steps.1.Lo a0.1.Steps.1.Hi),(api_Span.mk a0.1.Steps.2.Lo a0.1.Steps.2.Hi)) a0.1.Spread (api_Span.mk a0.1.Ratio.Lo a0.1.Ratio.Hi) (api_Span.mk a0.1.Match.Lo a0.1.Match.Hi) (api_Span.mk a0.1.Turn.Lo a0.1.Turn.Hi))])).bind fun aH =>
  k2 a0.1.Kind a0.1.Power.Lo a0.1.Match.Lo a0.1.Match.Hi a0.1.Turn.Lo a0.1.Turn.Hi a0.1.Power.Hi a0.1.Steps.1.Lo a0.1.Steps.1.Hi a0.1.Steps.2.Lo a0.1.Steps.2.Hi a0.1.Spread a0.1.Ratio.Lo a0.1.Ratio.Hi a0.2.b (bif a0.2.bad then true else (((a0.1.Kind:Int)==a3)&&((((a0.1.Power.Lo:Int)==a4)&&(((a0.1.Power.Hi:Int)==a9)&&true))&&(((((a0.1.Steps.1.Lo:Int)==aA)&&(((a0.1.Steps.1.Hi:Int)==aB)&&true))&&((((a0.1.Steps.2.Lo:Int)==aC)&&(((a0.1.Steps.2.Hi:Int)==aD)&&true))&&true))&&(((a0.1.Spread:Int)==aE)&&((((a0.1.Ratio.Lo:Int)==aF)&&(((a0.1.Ratio.Hi:Int)==aG)&&true))&&((((a0.1.Match.Lo:Int)==a5)&&(((a0.1.Match.Hi:Int)==a6)&&true))&&((((a0.1.Turn.Lo:Int)==a7)&&(((a0.1.Turn.Hi:Int)==a8)&&true))&&true)))))))) aH) else (k2 a3 a4 a5 a6 a7 a8 a9 aA aB aC aD aE aF aG a1.2.b a1.2.bad a2)
def Fq (F:Nat) (p1:Int) (a1:Int) (a2:Int) (a3:Int) (a4:Int) (a5:Int) (a6:Int) (a7:Int) (a8:Int) (a9:Int) (aA:Int) (aB:Int) (aC:Int) (aD:Int) (aE:Int) (k2:(Int→Int→Int→Int→Int→Int→Int→Int→Int→Int→Int→Int→Int→Int→(List Int)→Bool→(List api_Echo)→Option ((List api_Echo)×ref12_reader))) (aG:(Int×ref12_reader)) (k4:((List api_Echo)→Int→Option ((List api_Echo)×ref12_reader))) (a0:(List api_Echo)) (aF:Int):Option ((List api_Echo)×ref12_reader) :=
  bif (decide (aF<aG.1)) then ((apd 112 a0 ([(api_Echo.mk a1 (api_Span.mk a2 a7) ((api_Span.mk a8 a9),(api_Span.mk aA aB)) aC (api_Span.mk aD aE) (api_Span.mk a3 a4) (api_Span.mk a5 a6))])).bind fun aH =>
  (ck (aF+1)).bind fun aI =>
  k4 aH aI) else (Eg F p1 a1 a2 a3 a4 a5 a6 a7 a8 a9 aA aB aC aD aE k2 aG a0)
def C4 (F:Nat) (p1:Int) (a0:Int) (a1:Int) (a2:Int) (a3:Int) (a4:Int) (a5:Int) (a6:Int) (a7:Int) (a8:Int) (a9:Int) (aA:Int) (aB:Int) (aC:Int) (aD:Int) (k2:(Int→Int→Int→Int→Int→Int→Int→Int→Int→Int→Int→Int→Int→Int→(List Int)→Bool→(List api_Echo)→Option ((List api_Echo)×ref12_reader))) (aE:(Int×ref12_reader)):Nat→(List api_Echo)→Int→Option ((List api_Echo)×ref12_reader)
  | 0,_,_=>none
  | n+1,aF,aG=>Fq F p1 a0 a1 a2 a3 a4 a5 a6 a7 a8 a9 aA aB aC aD k2 aE (C4 F p1 a0 a1 a2 a3 a4 a5 a6 a7 a8 a9 aA aB aC aD k2 aE n) aF aG
def Dt (F:Nat) (p1:Int) (k2:(Int→Int→Int→Int→Int→Int→Int→Int→Int→Int→Int→Int→Int→Int→(List Int)→Bool→(List api_Echo)→Option ((List api_Echo)×ref12_reader))) (a3:Int) (a4:Int) (a5:Int) (a6:Int) (a7:Int) (a8:Int) (a9:Int) (aA:Int) (aB:Int) (aC:Int) (aD:Int) (aE:Int) (aF:Int) (aG:Int) (a2:(List Int)) (a1:Bool) (a0:(List api_Echo)):Option ((List api_Echo)×ref12_reader) :=
  bif (decide (((a0.length:Nat):Int)<p1)) then (bif (!a1) then ((ck (p1-((a0.length:Nat):Int))).bind fun aH =>
  (Er F (ref12_reader.mk a2 a1) aH).bind fun aI =>
  C4 F p1 a3 a4 a5 a6 a7 a8 a9 aA aB aC aD aE aF aG k2 aI F a0 0) else (Bp a3 a4 a5 a6 a7 a8 a9 aA aB aC aD aE aF aG a2 a1 a0)) else (Bp a3 a4 a5 a6 a7 a8 a9 aA aB aC aD aE aF aG a2 a1 a0)
def Be (F:Nat) (p1:Int):Nat→Int→Int→Int→Int→Int→Int→Int→Int→Int→Int→Int→Int→Int→Int→(List Int)→Bool→(List api_Echo)→Option ((List api_Echo)×ref12_reader)
  | 0,_,_,_,_,_,_,_,_,_,_,_,_,_,_,_,_,_=>none
  | n+1,a3,a4,a5,a6,a7,a8,a9,aA,aB,aC,aD,aE,aF,aG,a1,a0,a2=>Dt F p1 (Be F p1 n) a3 a4 a5 a6 a7 a8 a9 aA aB aC aD aE aF aG a1 a0 a2
def Ef (F:Nat) (p0:ref12_reader) (p1:Int):Option ((List api_Echo)×ref12_reader) :=
  Be F p1 F 1 0 0 0 0 0 0 0 0 0 0 0 0 0 p0.b p0.bad ([])
def Bv (a3:Int) (a4:Int) (a1:(List Int)) (a0:Bool) (a2:(List api_Span)):Option ((List api_Span)×ref12_reader) :=
  some (a2,(ref12_reader.mk a1 a0))
def Es (F:Nat) (p1:Int) (a3:Int) (a4:Int) (k2:(Int→Int→(List Int)→Bool→(List api_Span)→Option ((List api_Span)×ref12_reader))) (a1:(Int×ref12_reader)) (a2:(List api_Span)):Option ((List api_Span)×ref12_reader) :=
  bif (decide (((a2.length:Nat):Int)<p1)) then ((Ci F (ref12_reader.mk a1.2.b a1.2.bad)).bind fun a0 =>
  (apd 16 a2 ([(api_Span.mk a0.1.Lo a0.1.Hi)])).bind fun a5 =>
  k2 a0.1.Lo a0.1.Hi a0.2.b (bif a0.2.bad then true else (((a0.1.Lo:Int)==a3)&&(((a0.1.Hi:Int)==a4)&&true))) a5) else (k2 a3 a4 a1.2.b a1.2.bad a2)
def G9 (F:Nat) (p1:Int) (a1:Int) (a2:Int) (k2:(Int→Int→(List Int)→Bool→(List api_Span)→Option ((List api_Span)×ref12_reader))) (a4:(Int×ref12_reader)) (k4:((List api_Span)→Int→Option ((List api_Span)×ref12_reader))) (a0:(List api_Span)) (a3:Int):Option ((List api_Span)×ref12_reader) :=
  bif (decide (a3<a4.1)) then ((apd 16 a0 ([(api_Span.mk a1 a2)])).bind fun a5 =>
  (ck (a3+1)).bind fun a6 =>
  k4 a5 a6) else (Es F p1 a1 a2 k2 a4 a0)
def C7 (F:Nat) (p1:Int) (a0:Int) (a1:Int) (k2:(Int→Int→(List Int)→Bool→(List api_Span)→Option ((List api_Span)×ref12_reader))) (a2:(Int×ref12_reader)):Nat→(List api_Span)→Int→Option ((List api_Span)×ref12_reader)
  | 0,_,_=>none
  | n+1,a3,a4=>G9 F p1 a0 a1 k2 a2 (C7 F p1 a0 a1 k2 a2 n) a3 a4
def Dz (F:Nat) (p1:Int) (k2:(Int→Int→(List Int)→Bool→(List api_Span)→Option ((List api_Span)×ref12_reader))) (a3:Int) (a4:Int) (a2:(List Int)) (a1:Bool) (a0:(List api_Span)):Option ((List api_Span)×ref12_reader) :=
  bif (decide (((a0.length:Nat):Int)<p1)) then (bif (!a1) then ((ck (p1-((a0.length:Nat):Int))).bind fun a5 =>
  (Er F (ref12_reader.mk a2 a1) a5).bind fun a6 =>
  C7 F p1 a3 a4 k2 a6 F a0 0) else (Bv a3 a4 a2 a1 a0)) else (Bv a3 a4 a2 a1 a0)
def Bj (F:Nat) (p1:Int):Nat→Int→Int→(List Int)→Bool→(List api_Span)→Option ((List api_Span)×ref12_reader)
  | 0,_,_,_,_,_=>none
  | n+1,a3,a4,a1,a0,a2=>Dz F p1 (Bj F p1 n) a3 a4 a1 a0 a2
def Ev (F:Nat) (p0:ref12_reader) (p1:Int):Option ((List api_Span)×ref12_reader) :=
  Bj F p1 F 0 0 p0.b p0.bad ([])
def Db (F:Nat) (y6:(Int×ref12_reader)) (a2:ByteArray) (a5:Int) (a6:Int) (a7:Int) (a0:(List (List api_Echo))) (a8:Int) (a9:Int) (aA:Int) (aB:Int) (aC:Int) (a1:(List api_Span)) (aD:Int) (a3:ByteArray) (a4:ByteArray) (aE:Int) (aF:Int) (aG:Int) (aH:Int) (aI:Int) (aJ:Int) (aK:(List Int)) (aL:Bool):Option (ref12_Item×Bool) :=
  bif aL then ((gd ((true==false&&true)) (Df F (ref12_Item.mk y6.1 a2 aD (api_Sweep.mk (api_Site.mk a4 aE aF aG aH aI aJ a5) a6 a7 a0) (api_Field.mk (api_Grid.mk a8 a9 aA aB aC) a1) a3)) default).bind fun aN =>
  some ((ref12_Item.mk 0 ByteArray.empty 0 (api_Sweep.mk (api_Site.mk ByteArray.empty 0 0 0 0 0 0 0) 0 0 ([]:(List (List api_Echo)))) (api_Field.mk (api_Grid.mk 0 0 0 0 0) ([]:(List api_Span))) ByteArray.empty),false)) else ((gd (((decide (((aK.length:Nat):Int)>0))==false&&true)) (Df F (ref12_Item.mk y6.1 a2 aD (api_Sweep.mk (api_Site.mk a4 aE aF aG aH aI aJ a5) a6 a7 a0) (api_Field.mk (api_Grid.mk a8 a9 aA aB aC) a1) a3)) default).bind fun aM =>
  bif (bif (decide (((aK.length:Nat):Int)>0)) then true else (aM != 0)) then (some ((ref12_Item.mk 0 ByteArray.empty 0 (api_Sweep.mk (api_Site.mk ByteArray.empty 0 0 0 0 0 0 0) 0 0 ([]:(List (List api_Echo)))) (api_Field.mk (api_Grid.mk 0 0 0 0 0) ([]:(List api_Span))) ByteArray.empty),false)) else (some ((ref12_Item.mk y6.1 a2 aD (api_Sweep.mk (api_Site.mk a4 aE aF aG aH aI aJ a5) a6 a7 a0) (api_Field.mk (api_Grid.mk a8 a9 aA aB aC) a1) a3),true)))
def Kj (F:Nat) (y6:(Int×ref12_reader)) (a5:(ByteArray×ref12_reader)) (a6:(Int×ref12_reader)) (a7:(Int×ref12_reader)) (a8:(Int×ref12_reader)) (a4:(Int×ref12_reader)) (a2:(Int×ref12_reader)) (a9:(Int×ref12_reader)) (aA:(Int×ref12_reader)) (aB:(Int×ref12_reader)) (aC:(Int×ref12_reader)) (a0:((List api_Echo)×ref12_reader)) (k2:((List (List api_Echo))→Int→Option (ref12_Item×Bool))) (a3:(List (List api_Echo))) (a1:Int):Option (ref12_Item×Bool) :=
  (ck (4*a4.1)).bind fun aF =>
  bif (decide (a1<aF)) then (bif (!a0.2.bad) then ((ck (a1*a2.1)).bind fun aG =>
  (ck (a1+1)).bind fun aH =>
  (ck (aH*a2.1)).bind fun aI =>
  (Gz a0.1 aG aI).bind fun aD =>
  (apd 24 a3 ([aD])).bind fun aE =>
  (ck (a1+1)).bind fun aJ =>
  k2 aE aJ) else (Db F y6 ByteArray.empty aA.1 aB.1 aC.1 a3 0 0 0 0 0 ([]) 0 ByteArray.empty a5.1 a6.1 a7.1 a8.1 a4.1 a2.1 a9.1 a0.2.b a0.2.bad)) else (Db F y6 ByteArray.empty aA.1 aB.1 aC.1 a3 0 0 0 0 0 ([]) 0 ByteArray.empty a5.1 a6.1 a7.1 a8.1 a4.1 a2.1 a9.1 a0.2.b a0.2.bad)
def Gg (F:Nat) (y6:(Int×ref12_reader)) (a0:(ByteArray×ref12_reader)) (a1:(Int×ref12_reader)) (a2:(Int×ref12_reader)) (a3:(Int×ref12_reader)) (a4:(Int×ref12_reader)) (a5:(Int×ref12_reader)) (a6:(Int×ref12_reader)) (a7:(Int×ref12_reader)) (a8:(Int×ref12_reader)) (a9:(Int×ref12_reader)) (aA:((List api_Echo)×ref12_reader)):Nat→(List (List api_Echo))→Int→Option (ref12_Item×Bool)
  | 0,_,_=>none
  | n+1,aB,aC=>Kj F y6 a0 a1 a2 a3 a4 a5 a6 a7 a8 a9 aA (Gg F y6 a0 a1 a2 a3 a4 a5 a6 a7 a8 a9 aA n) aB aC
def M0 (F:Nat) (p0:(List Int)):Option (ref12_Item×Bool) :=
  (Aa F (ref12_reader.mk p0 false)).bind fun y6 =>
  bif (y6.1==1) then ((Dl F (ref12_reader.mk y6.2.b y6.2.bad)).bind fun a4 =>
  (B9 F (ref12_reader.mk a4.2.b a4.2.bad)).bind fun a5 =>
  (B9 F (ref12_reader.mk a5.2.b a5.2.bad)).bind fun a6 =>
  (Aa F (ref12_reader.mk a6.2.b a6.2.bad)).bind fun a7 =>
  (Aa F (ref12_reader.mk a7.2.b a7.2.bad)).bind fun a0 =>
  (Aa F (ref12_reader.mk a0.2.b a0.2.bad)).bind fun a1 =>
  (Aa F (ref12_reader.mk a1.2.b a1.2.bad)).bind fun a8 =>
  (Aa F (ref12_reader.mk a8.2.b a8.2.bad)).bind fun a9 =>
  (Aa F (ref12_reader.mk a9.2.b a9.2.bad)).bind fun aD =>
  (Aa F (ref12_reader.mk aD.2.b aD.2.bad)).bind fun aE =>
  (F1 F (api_Site.mk a4.1 a5.1 a6.1 a7.1 a0.1 a1.1 a8.1 a9.1)).bind fun aN =>
  bif (aN != 0) then (some ((ref12_Item.mk 0 ByteArray.empty 0 (api_Sweep.mk (api_Site.mk ByteArray.empty 0 0 0 0 0 0 0) 0 0 ([]:(List (List api_Echo)))) (api_Field.mk (api_Grid.mk 0 0 0 0 0) ([]:(List api_Span))) ByteArray.empty),false)) else ((ck (4*a0.1)).bind fun aK =>
  (ck (aK*a1.1)).bind fun aL =>
  (Ef F (ref12_reader.mk aE.2.b aE.2.bad) aL).bind fun aO =>
  Gg F y6 a4 a5 a6 a7 a0 a1 a8 a9 aD aE aO F ([]) 0)) else (bif (y6.1==2) then ((Dl F (ref12_reader.mk y6.2.b y6.2.bad)).bind fun aF =>
  (Aa F (ref12_reader.mk aF.2.b aF.2.bad)).bind fun aG =>
  (B9 F (ref12_reader.mk aG.2.b aG.2.bad)).bind fun aA =>
  (B9 F (ref12_reader.mk aA.2.b aA.2.bad)).bind fun aB =>
  (Aa F (ref12_reader.mk aB.2.b aB.2.bad)).bind fun aC =>
  (Aa F (ref12_reader.mk aC.2.b aC.2.bad)).bind fun a2 =>
  (Aa F (ref12_reader.mk a2.2.b a2.2.bad)).bind fun a3 =>
  bif ((C6 (api_Grid.mk aA.1 aB.1 aC.1 a2.1 a3.1)) != 0) then (some ((ref12_Item.mk 0 ByteArray.empty 0 (api_Sweep.mk (api_Site.mk ByteArray.empty 0 0 0 0 0 0 0) 0 0 ([]:(List (List api_Echo)))) (api_Field.mk (api_Grid.mk 0 0 0 0 0) ([]:(List api_Span))) ByteArray.empty),false)) else ((ck (a2.1*a3.1)).bind fun aM =>
  (Ev F (ref12_reader.mk a3.2.b a3.2.bad) aM).bind fun aH =>
  Db F y6 aF.1 0 0 0 ([]) aA.1 aB.1 aC.1 a2.1 a3.1 aH.1 aG.1 ByteArray.empty ByteArray.empty 0 0 0 0 0 0 aH.2.b aH.2.bad)) else (bif (y6.1==3) then ((Aa F (ref12_reader.mk y6.2.b y6.2.bad)).bind fun aI =>
  (Dl F (ref12_reader.mk aI.2.b aI.2.bad)).bind fun aJ =>
  Db F y6 ByteArray.empty 0 0 0 ([]) 0 0 0 0 0 ([]) aI.1 aJ.1 ByteArray.empty 0 0 0 0 0 0 aJ.2.b aJ.2.bad) else (Db F y6 ByteArray.empty 0 0 0 ([]) 0 0 0 0 0 ([]) 0 ByteArray.empty ByteArray.empty 0 0 0 0 0 0 y6.2.b y6.2.bad)))
def Mk (F:Nat) (p0:(List Int)):Option (ref12_Item×Int) :=
  (Aa F (ref12_reader.mk p0 false)).bind fun y6 =>
  bif y6.2.bad then (some ((ref12_Item.mk 0 ByteArray.empty 0 (api_Sweep.mk (api_Site.mk ByteArray.empty 0 0 0 0 0 0 0) 0 0 ([]:(List (List api_Echo)))) (api_Field.mk (api_Grid.mk 0 0 0 0 0) ([]:(List api_Span))) ByteArray.empty),15)) else ((ck (y6.1+5)).bind fun a4 =>
  bif (((y6.2.b.length:Nat):Int) != a4) then (some ((ref12_Item.mk 0 ByteArray.empty 0 (api_Sweep.mk (api_Site.mk ByteArray.empty 0 0 0 0 0 0 0) 0 0 ([]:(List (List api_Echo)))) (api_Field.mk (api_Grid.mk 0 0 0 0 0) ([]:(List api_Span))) ByteArray.empty),15)) else ((ck (((p0.length:Nat):Int)-5)).bind fun a5 =>
  (Gz p0 a5 ((p0.length:Nat):Int)).bind fun a1 =>
  (ck (((p0.length:Nat):Int)-5)).bind fun a6 =>
  (Gz p0 (0:Int) a6).bind fun a2 =>
  (M3 F a2).bind fun a7 =>
  (Nu F a1 a7).bind fun a8 =>
  bif (!a8) then (some ((ref12_Item.mk 0 ByteArray.empty 0 (api_Sweep.mk (api_Site.mk ByteArray.empty 0 0 0 0 0 0 0) 0 0 ([]:(List (List api_Echo)))) (api_Field.mk (api_Grid.mk 0 0 0 0 0) ([]:(List api_Span))) ByteArray.empty),15)) else ((Gz y6.2.b (0:Int) y6.1).bind fun a3 =>
  (M0 F a3).bind fun a0 =>
  bif (!a0.2) then (some ((ref12_Item.mk 0 ByteArray.empty 0 (api_Sweep.mk (api_Site.mk ByteArray.empty 0 0 0 0 0 0 0) 0 0 ([]:(List (List api_Echo)))) (api_Field.mk (api_Grid.mk 0 0 0 0 0) ([]:(List api_Span))) ByteArray.empty),7)) else (some ((ref12_Item.mk a0.1.Kind a0.1.Name a0.1.Time (api_Sweep.mk (api_Site.mk a0.1.Sweep.Site.Name a0.1.Sweep.Site.X a0.1.Sweep.Site.Y a0.1.Sweep.Site.Z a0.1.Sweep.Site.Rose a0.1.Sweep.Site.Gates a0.1.Sweep.Site.Step a0.1.Sweep.Site.Width) a0.1.Sweep.Tilt a0.1.Sweep.Time a0.1.Sweep.Rays) (api_Field.mk (api_Grid.mk a0.1.Field.Grid.X a0.1.Field.Grid.Y a0.1.Field.Grid.Size a0.1.Field.Grid.Wide a0.1.Field.Grid.High) a0.1.Field.Vals) a0.1.Text),0)))))
def Kk (F:Nat) (p0:(List Int)) (a1:Bool):Option Bool :=
  (Aa F (ref12_reader.mk p0 false)).bind fun a0 =>
  bif a1 then (some true) else (bif (!a0.2.bad) then ((ck (a0.1+5)).bind fun a2 =>
  some (decide (((a0.2.b.length:Nat):Int)<a2))) else (some false))
def Md (F:Nat) (p0:(List Int)) (k2:(Bool→Int→Option Bool)) (a0:Bool) (a1:Int):Option Bool :=
  bif (decide (a1<((p0.length:Nat):Int))) then ((gd ((a0==true&&true)) (C5 p0 a1) default).bind fun a2 =>
  (gd (((bif a0 then (decide (a2≥128)) else false)==true&&true)) (C5 p0 a1) default).bind fun a3 =>
  (ck (a1+1)).bind fun a4 =>
  k2 (bif (bif a0 then (decide (a2≥128)) else false) then (decide (a3≤254)) else false) a4) else (Kk F p0 a0)
def Jl (F:Nat) (p0:(List Int)):Nat→Bool→Int→Option Bool
  | 0,_,_=>none
  | n+1,a0,a1=>Md F p0 (Jl F p0 n) a0 a1
def Nv (F:Nat) (p0:(List Int)):Option Bool :=
  Jl F p0 F true 0
def Ha (a0:(List ref12_Item)) (a1:Int) (a2:Int):Option ((List ref12_Item)×Int×Int) :=
  bif (decide (((a0.length:Nat):Int)>1000)) then (some (([]:(List ref12_Item)),0,9)) else (some (a0,a1,a2))
def Gf (a2:(List ref12_Item)) (a4:Int) (k2:((List ref12_Item)→Int→Int→Option ((List ref12_Item)×Int×Int))) (a5:Int) (a0:(ref12_Item×Int)) (a1:Int):Option ((List ref12_Item)×Int×Int) :=
  bif (a1==0) then ((apd 224 a2 ([(ref12_Item.mk a0.1.Kind a0.1.Name a0.1.Time (api_Sweep.mk (api_Site.mk a0.1.Sweep.Site.Name a0.1.Sweep.Site.X a0.1.Sweep.Site.Y a0.1.Sweep.Site.Z a0.1.Sweep.Site.Rose a0.1.Sweep.Site.Gates a0.1.Sweep.Site.Step a0.1.Sweep.Site.Width) a0.1.Sweep.Tilt a0.1.Sweep.Time a0.1.Sweep.Rays) (api_Field.mk (api_Grid.mk a0.1.Field.Grid.X a0.1.Field.Grid.Y a0.1.Field.Grid.Size a0.1.Field.Grid.Wide a0.1.Field.Grid.High) a0.1.Field.Vals) a0.1.Text)])).bind fun a3 =>
  k2 a3 a5 a1) else (k2 a2 a4 a1)
def Jh (F:Nat) (p0:(List Int)) (k2:((List ref12_Item)→Int→Int→Option ((List ref12_Item)×Int×Int))) (a3:(List ref12_Item)) (a0:Int) (a4:Int):Option ((List ref12_Item)×Int×Int) :=
  bif (bif (decide (a0<((p0.length:Nat):Int))) then (a4==0) else false) then ((ck (a0+1)).bind fun a7 =>
  (Rt F p0 a7).bind fun a1 =>
  (ck (a0+1)).bind fun a8 =>
  (Gz p0 a8 a1).bind fun a5 =>
  (Mk F a5).bind fun a2 =>
  bif (bif (a2.2 != 0) then (a1==((p0.length:Nat):Int)) else false) then ((ck (a0+1)).bind fun a9 =>
  (Gz p0 a9 a1).bind fun a6 =>
  (Nv F a6).bind fun aA =>
  bif aA then (Gf a3 a0 k2 a1 a2 16) else (Gf a3 a0 k2 a1 a2 a2.2)) else (Gf a3 a0 k2 a1 a2 a2.2)) else (Ha a3 a0 a4)
def Fh (F:Nat) (p0:(List Int)):Nat→(List ref12_Item)→Int→Int→Option ((List ref12_Item)×Int×Int)
  | 0,_,_,_=>none
  | n+1,a0,a1,a2=>Jh F p0 (Fh F p0 n) a0 a1 a2
def Jw (F:Nat) (p0:(List Int)):Option ((List ref12_Item)×Int×Int) :=
  bif (decide (((p0.length:Nat):Int)>16777216)) then (some (([]:(List ref12_Item)),0,8)) else (bif (decide (((p0.length:Nat):Int)<4)) then ((gd (((decide (((p0.length:Nat):Int)>4))==true&&(true==false&&true))) (C5 p0 4) default).bind fun u5 =>
  some (([]:(List ref12_Item)),0,7)) else ((Gz p0 (0:Int) 4).bind fun l6 =>
  (gd (((decide (((p0.length:Nat):Int)>4))==true&&((!(sEq (bst l6) (⟨#[82,86,70,49]⟩:ByteArray)))==false&&true))) (C5 p0 4) default).bind fun u8 =>
  bif (bif (!(sEq (bst l6) (⟨#[82,86,70,49]⟩:ByteArray))) then true else (bif (decide (((p0.length:Nat):Int)>4)) then (u8 != 0) else false)) then (some (([]:(List ref12_Item)),0,7)) else (Fh F p0 F ([]) 4 0)))
def Ko:Option Bool :=
  some true
def Kp (a0:Int) (k2:(Int→Option Bool)):Option Bool :=
  (ck (a0+1)).bind fun a1 =>
  k2 a1
def J6 (p0:(List ref12_Item)) (a0:Int) (k2:(Int→Option Bool)) (a3:Int):Option Bool :=
  bif (decide (a3>200)) then (some false) else ((C5 p0 a0).bind fun a1 =>
  bif (decide (((a1.Sweep.Rays.length:Nat):Int)>100)) then (some false) else ((C5 p0 a0).bind fun a2 =>
  bif (decide (((a2.Text.size:Nat):Int)>400)) then (some false) else (Kp a0 k2)))
def Kn (p0:(List ref12_Item)) (a0:Int) (k2:(Int→Option Bool)) (k5:(Int→Int→Option Bool)) (a2:Int) (a1:Int):Option Bool :=
  (C5 p0 a0).bind fun a3 =>
  bif (decide (a1<((a3.Sweep.Rays.length:Nat):Int))) then ((C5 p0 a0).bind fun a4 =>
  (C5 a4.Sweep.Rays a1).bind fun a5 =>
  (ck (a1+1)).bind fun a6 =>
  k5 (IntKind.i64.wrap (a2+((a5.length:Nat):Int))) a6) else (J6 p0 a0 k2 a2)
def Gt (p0:(List ref12_Item)) (a0:Int) (k2:(Int→Option Bool)):Nat→Int→Int→Option Bool
  | 0,_,_=>none
  | n+1,a1,a2=>Kn p0 a0 k2 (Gt p0 a0 k2 n) a1 a2
def Km (F:Nat) (p0:(List ref12_Item)) (k2:(Int→Option Bool)) (a0:Int):Option Bool :=
  bif (decide (a0<((p0.length:Nat):Int))) then ((C5 p0 a0).bind fun a1 =>
  Gt p0 a0 k2 F ((a1.Field.Vals.length:Nat):Int) 0) else (Ko)
def Gs (F:Nat) (p0:(List ref12_Item)):Nat→Int→Option Bool
  | 0,_=>none
  | n+1,a0=>Km F p0 (Gs F p0 n) a0
def L7 (F:Nat) (p0:(List ref12_Item)):Option Bool :=
  bif (bif (bif (decide (((p0.length:Nat):Int)>12)) then (decide (((p0.length:Nat):Int)≤1000)) else false) then true else (decide (((p0.length:Nat):Int)>1002))) then (some false) else (Gs F p0 F 0)
def Ld (self_:Int→Option (List Int)) (p0:Int):Option (List Int) :=
  bif (decide (p0<127)) then ((ck (1+p0)).bind fun x1 =>
  some ([IntKind.u8.wrap x1])) else ((Nw p0 127).bind fun x3 =>
  (ck (128+x3)).bind fun x4 =>
  (Mr p0 127).bind fun x6 =>
  (self_ x6).bind fun y8 =>
  (apd 1 ([IntKind.u8.wrap x4]) y8).bind fun a0 =>
  some a0)
def Ak:Nat→Int→Option (List Int)
  | 0,_=>none
  | F+1,p0=>Ld (Ak F) p0
def Ks (a0:(List Int)):Option (List Int) :=
  some a0
def Kr (p0:(List (List Int))) (k2:((List Int)→Int→Option (List Int))) (a1:(List Int)) (a0:Int):Option (List Int) :=
  bif (decide (a0<((p0.length:Nat):Int))) then ((C5 p0 a0).bind fun a3 =>
  (apd 1 a1 a3).bind fun a2 =>
  (ck (a0+1)).bind fun a4 =>
  k2 a2 a4) else (Ks a1)
def Gv (p0:(List (List Int))):Nat→(List Int)→Int→Option (List Int)
  | 0,_,_=>none
  | n+1,a0,a1=>Kr p0 (Gv p0 n) a0 a1
def Ec (F:Nat) (p0:(List (List Int))):Option (List Int) :=
  Gv p0 F ([]) 0
def Jk (F:Nat) (p0:ByteArray):Option (List Int) :=
  (Ak F ((p0.size:Nat):Int)).bind fun y2 =>
  (s2b p0).bind fun l5 =>
  (apd 1 y2 l5).bind fun l8 =>
  some l8
def Da (F:Nat) (p0:Int):Option (List Int) :=
  bif (decide (p0<0)) then ((ck ((-2)*p0)).bind fun x1 =>
  (ck (x1-1)).bind fun x2 =>
  (Ak F x2).bind fun y4 =>
  some y4) else ((ck (2*p0)).bind fun x7 =>
  (Ak F x7).bind fun y9 =>
  some y9)
def Fz (F:Nat) (p0:api_Span):Option (List Int) :=
  (ck (p0.Hi-p0.Lo)).bind fun x2 =>
  (Da F p0.Lo).bind fun y4 =>
  (Ak F x2).bind fun a1 =>
  (apd 1 y4 a1).bind fun a0 =>
  some a0
def Lz (F:Nat) (p0:api_Echo):Option (List Int) :=
  (Ak F p0.Kind).bind fun y3 =>
  bif (p0.Kind==1) then ((Ak F p0.Power.Hi).bind fun y7 =>
  (apd 1 y3 y7).bind fun a1 =>
  some a1) else ((Fz F p0.Power).bind fun a6 =>
  (Fz F p0.Ratio).bind fun a8 =>
  (Fz F p0.Match).bind fun a9 =>
  (Ak F p0.Spread).bind fun aA =>
  (Ec F ([a6,a8,a9,aA])).bind fun aB =>
  (apd 1 y3 aB).bind fun a0 =>
  bif (p0.Kind==3) then ((Fz F (api_Span.mk p0.Steps.1.Lo p0.Steps.1.Hi)).bind fun a3 =>
  (Fz F (api_Span.mk p0.Steps.2.Lo p0.Steps.2.Hi)).bind fun a4 =>
  (Fz F p0.Turn).bind fun a5 =>
  (Ec F ([a3,a4,a5])).bind fun a7 =>
  (apd 1 a0 a7).bind fun a2 =>
  some a2) else (some a0))
def Jb (a1:Int) (a2:Int) (a3:Int) (a4:Int) (a5:Int) (a6:Int) (a7:Int) (a8:Int) (a9:Int) (aA:Int) (aB:Int) (aC:Int) (aD:Int) (aE:Int) (a0:(List Int)):Option (List Int) :=
  some a0
def Jc (F:Nat) (p0:(List api_Echo)) (a7:Int) (a8:Int) (a9:Int) (aA:Int) (aB:Int) (aC:Int) (aD:Int) (aE:Int) (aF:Int) (aG:Int) (aH:Int) (aI:Int) (aJ:Int) (aK:Int) (a5:(List Int)) (aL:Int) (k2:(Int→Int→Int→Int→Int→Int→Int→Int→Int→Int→Int→Int→Int→Int→(List Int)→Int→Option (List Int))) (a4:Int):Option (List Int) :=
  (Ak F a4).bind fun aN =>
  (apd 1 a5 aN).bind fun a3 =>
  (ck (aL+a4)).bind fun a2 =>
  bif (decide (a2<((p0.length:Nat):Int))) then ((C5 p0 a2).bind fun a1 =>
  (Lz F (api_Echo.mk a1.Kind a1.Power ((api_Span.mk a1.Steps.1.Lo a1.Steps.1.Hi),(api_Span.mk a1.Steps.2.Lo a1.Steps.2.Hi)) a1.Spread a1.Ratio a1.Match a1.Turn)).bind fun aO =>
  (apd 1 a3 aO).bind fun a6 =>
  (C5 p0 a2).bind fun a0 =>
  (ck (a2+1)).bind fun aM =>
  k2 a0.Kind a0.Power.Lo a0.Match.Lo a0.Match.Hi a0.Turn.Lo a0.Turn.Hi a0.Power.Hi a0.Steps.1.Lo a0.Steps.1.Hi a0.Steps.2.Lo a0.Steps.2.Hi a0.Spread a0.Ratio.Lo a0.Ratio.Hi a6 aM) else (k2 a7 a8 a9 aA aB aC aD aE aF aG aH aI aJ aK a3 a2)
def Kq (F:Nat) (p0:(List api_Echo)) (a4:Int) (a5:Int) (a6:Int) (a7:Int) (a8:Int) (a9:Int) (aA:Int) (aB:Int) (aC:Int) (aD:Int) (aE:Int) (aF:Int) (aG:Int) (aH:Int) (aI:(List Int)) (a2:Int) (k2:(Int→Int→Int→Int→Int→Int→Int→Int→Int→Int→Int→Int→Int→Int→(List Int)→Int→Option (List Int))) (k4:(Int→Option (List Int))) (a1:Int):Option (List Int) :=
  (ck (a2+a1)).bind fun a3 =>
  (gd (((decide (a3<((p0.length:Nat):Int)))==true&&true)) (ck (a2+a1)) 0).bind fun aJ =>
  (gd (((decide (a3<((p0.length:Nat):Int)))==true&&true)) (C5 p0 aJ) default).bind fun a0 =>
  bif (bif (decide (a3<((p0.length:Nat):Int))) then (((a0.Kind:Int)==a4)&&((((a0.Power.Lo:Int)==a5)&&(((a0.Power.Hi:Int)==aA)&&true))&&(((((a0.Steps.1.Lo:Int)==aB)&&(((a0.Steps.1.Hi:Int)==aC)&&true))&&((((a0.Steps.2.Lo:Int)==aD)&&(((a0.Steps.2.Hi:Int)==aE)&&true))&&true))&&(((a0.Spread:Int)==aF)&&((((a0.Ratio.Lo:Int)==aG)&&(((a0.Ratio.Hi:Int)==aH)&&true))&&((((a0.Match.Lo:Int)==a6)&&(((a0.Match.Hi:Int)==a7)&&true))&&((((a0.Turn.Lo:Int)==a8)&&(((a0.Turn.Hi:Int)==a9)&&true))&&true))))))) else false) then ((ck (a1+1)).bind fun aK =>
  k4 aK) else (Jc F p0 a4 a5 a6 a7 a8 a9 aA aB aC aD aE aF aG aH aI a2 k2 a1)
def Gu (F:Nat) (p0:(List api_Echo)) (a1:Int) (a2:Int) (a3:Int) (a4:Int) (a5:Int) (a6:Int) (a7:Int) (a8:Int) (a9:Int) (aA:Int) (aB:Int) (aC:Int) (aD:Int) (aE:Int) (a0:(List Int)) (aF:Int) (k2:(Int→Int→Int→Int→Int→Int→Int→Int→Int→Int→Int→Int→Int→Int→(List Int)→Int→Option (List Int))):Nat→Int→Option (List Int)
  | 0,_=>none
  | n+1,aG=>Kq F p0 a1 a2 a3 a4 a5 a6 a7 a8 a9 aA aB aC aD aE a0 aF k2 (Gu F p0 a1 a2 a3 a4 a5 a6 a7 a8 a9 aA aB aC aD aE a0 aF k2 n) aG
def Ja (F:Nat) (p0:(List api_Echo)) (k2:(Int→Int→Int→Int→Int→Int→Int→Int→Int→Int→Int→Int→Int→Int→(List Int)→Int→Option (List Int))) (a1:Int) (a2:Int) (a3:Int) (a4:Int) (a5:Int) (a6:Int) (a7:Int) (a8:Int) (a9:Int) (aA:Int) (aB:Int) (aC:Int) (aD:Int) (aE:Int) (a0:(List Int)) (aF:Int):Option (List Int) :=
  bif (decide (aF<((p0.length:Nat):Int))) then (Gu F p0 a1 a2 a3 a4 a5 a6 a7 a8 a9 aA aB aC aD aE a0 aF k2 F 0) else (Jb a1 a2 a3 a4 a5 a6 a7 a8 a9 aA aB aC aD aE a0)
def Fy (F:Nat) (p0:(List api_Echo)):Nat→Int→Int→Int→Int→Int→Int→Int→Int→Int→Int→Int→Int→Int→Int→(List Int)→Int→Option (List Int)
  | 0,_,_,_,_,_,_,_,_,_,_,_,_,_,_,_,_=>none
  | n+1,a1,a2,a3,a4,a5,a6,a7,a8,a9,aA,aB,aC,aD,aE,a0,aF=>Ja F p0 (Fy F p0 n) a1 a2 a3 a4 a5 a6 a7 a8 a9 aA aB aC aD aE a0 aF
def K8 (F:Nat) (p0:(List api_Echo)):Option (List Int) :=
  Fy F p0 F 1 0 0 0 0 0 0 0 0 0 0 0 0 0 ([]) 0
def Jy (a1:Int) (a2:Int) (a0:(List Int)):Option (List Int) :=
  some a0
def Jz (F:Nat) (p0:(List api_Span)) (a7:Int) (a8:Int) (a4:(List Int)) (a9:Int) (k2:(Int→Int→(List Int)→Int→Option (List Int))) (a3:Int):Option (List Int) :=
  (Ak F a3).bind fun aB =>
  (apd 1 a4 aB).bind fun a1 =>
  (ck (a9+a3)).bind fun a0 =>
  bif (decide (a0<((p0.length:Nat):Int))) then ((C5 p0 a0).bind fun a6 =>
  (Fz F a6).bind fun aC =>
  (apd 1 a1 aC).bind fun a5 =>
  (C5 p0 a0).bind fun a2 =>
  (ck (a0+1)).bind fun aA =>
  k2 a2.Lo a2.Hi a5 aA) else (k2 a7 a8 a1 a0)
def Le (F:Nat) (p0:(List api_Span)) (a4:Int) (a5:Int) (a6:(List Int)) (a1:Int) (k2:(Int→Int→(List Int)→Int→Option (List Int))) (k4:(Int→Option (List Int))) (a0:Int):Option (List Int) :=
  (ck (a1+a0)).bind fun a2 =>
  (gd (((decide (a2<((p0.length:Nat):Int)))==true&&true)) (ck (a1+a0)) 0).bind fun a7 =>
  (gd (((decide (a2<((p0.length:Nat):Int)))==true&&true)) (C5 p0 a7) default).bind fun a3 =>
  bif (bif (decide (a2<((p0.length:Nat):Int))) then (((a3.Lo:Int)==a4)&&(((a3.Hi:Int)==a5)&&true)) else false) then ((ck (a0+1)).bind fun a8 =>
  k4 a8) else (Jz F p0 a4 a5 a6 a1 k2 a0)
def Hp (F:Nat) (p0:(List api_Span)) (a1:Int) (a2:Int) (a0:(List Int)) (a3:Int) (k2:(Int→Int→(List Int)→Int→Option (List Int))):Nat→Int→Option (List Int)
  | 0,_=>none
  | n+1,a4=>Le F p0 a1 a2 a0 a3 k2 (Hp F p0 a1 a2 a0 a3 k2 n) a4
def Jx (F:Nat) (p0:(List api_Span)) (k2:(Int→Int→(List Int)→Int→Option (List Int))) (a1:Int) (a2:Int) (a0:(List Int)) (a3:Int):Option (List Int) :=
  bif (decide (a3<((p0.length:Nat):Int))) then (Hp F p0 a1 a2 a0 a3 k2 F 0) else (Jy a1 a2 a0)
def Gi (F:Nat) (p0:(List api_Span)):Nat→Int→Int→(List Int)→Int→Option (List Int)
  | 0,_,_,_,_=>none
  | n+1,a1,a2,a0,a3=>Jx F p0 (Gi F p0 n) a1 a2 a0 a3
def L0 (F:Nat) (p0:(List api_Span)):Option (List Int) :=
  Gi F p0 F 0 0 ([]) 0
def Ki (F:Nat) (p0:ref12_Item):Option (List Int) :=
  (Ak F 3).bind fun a0 =>
  (Ak F p0.Time).bind fun a1 =>
  (Jk F p0.Text).bind fun a2 =>
  (Ec F ([a0,a1,a2])).bind fun a3 =>
  some a3
def Jj (F:Nat) (p0:ref12_Item) (a0:(List api_Echo)):Option (List Int) :=
  (Ak F 1).bind fun a1 =>
  (Jk F p0.Sweep.Site.Name).bind fun a2 =>
  (Da F p0.Sweep.Site.X).bind fun a3 =>
  (Da F p0.Sweep.Site.Y).bind fun a4 =>
  (Ak F p0.Sweep.Site.Z).bind fun a5 =>
  (Ak F p0.Sweep.Site.Rose).bind fun a6 =>
  (Ak F p0.Sweep.Site.Gates).bind fun a7 =>
  (Ak F p0.Sweep.Site.Step).bind fun a8 =>
  (Ak F p0.Sweep.Site.Width).bind fun a9 =>
  (Ak F p0.Sweep.Tilt).bind fun aA =>
  (Ak F p0.Sweep.Time).bind fun aB =>
  (K8 F a0).bind fun aC =>
  (Ec F ([a1,a2,a3,a4,a5,a6,a7,a8,a9,aA,aB,aC])).bind fun aD =>
  some aD
def Mc (F:Nat) (p0:ref12_Item) (k3:((List api_Echo)→Int→Option (List Int))) (a1:(List api_Echo)) (a0:Int):Option (List Int) :=
  bif (decide (a0<((p0.Sweep.Rays.length:Nat):Int))) then ((C5 p0.Sweep.Rays a0).bind fun a3 =>
  (apd 112 a1 a3).bind fun a2 =>
  (ck (a0+1)).bind fun a4 =>
  k3 a2 a4) else (Jj F p0 a1)
def Hb (F:Nat) (p0:ref12_Item):Nat→(List api_Echo)→Int→Option (List Int)
  | 0,_,_=>none
  | n+1,a0,a1=>Mc F p0 (Hb F p0 n) a0 a1
def Ku (F:Nat) (p0:ref12_Item):Option (List Int) :=
  bif (p0.Kind==1) then (Hb F p0 F ([]) 0) else (bif (p0.Kind==2) then ((Ak F 2).bind fun a0 =>
  (Jk F p0.Name).bind fun a1 =>
  (Ak F p0.Time).bind fun a2 =>
  (Da F p0.Field.Grid.X).bind fun a3 =>
  (Da F p0.Field.Grid.Y).bind fun a4 =>
  (Ak F p0.Field.Grid.Size).bind fun a5 =>
  (Ak F p0.Field.Grid.Wide).bind fun a6 =>
  (Ak F p0.Field.Grid.High).bind fun a7 =>
  (L0 F p0.Field.Vals).bind fun a8 =>
  (Ec F ([a0,a1,a2,a3,a4,a5,a6,a7,a8])).bind fun a9 =>
  some a9) else (Ki F p0))
def Hu (F:Nat) (p0:ref12_Item):Option (List Int) :=
  (Ku F p0).bind fun a1 =>
  (Ak F ((a1.length:Nat):Int)).bind fun a3 =>
  (apd 1 a3 a1).bind fun a0 =>
  (M3 F a0).bind fun a4 =>
  (apd 1 a0 a4).bind fun a2 =>
  some a2
def Nt (F:Nat) (p0:ref12_Item):Option ((List Int)×Int) :=
  (Df F p0).bind fun y9 =>
  bif (y9 != 0) then (some (([]:(List Int)),y9)) else ((Hu F p0).bind fun a1 =>
  (apd 1 ([0]) a1).bind fun a0 =>
  some (a0,0))
def Et (F:Nat) (p0:(List Int)):Option (List Int) :=
  (apd 1 ([]:List Int) p0).bind fun l5 =>
  some l5
def Jm (F:Nat) (p0:(List Int)) (p1:volume_Item):Option ((List Int)×Int) :=
  (Em F p0).bind fun a0 =>
  bif (bif (a0.2.2 != 0) then (a0.2.2 != 16) else false) then (some (([]:(List Int)),a0.2.2)) else ((F2 F p1).bind fun a1 =>
  bif (a1.2 != 0) then (some (([]:(List Int)),a1.2)) else (bif (((a0.1.length:Nat):Int)==1000) then (some (([]:(List Int)),13)) else ((ck (a0.2.1+((a1.1.length:Nat):Int))).bind fun a4 =>
  bif (decide (a4>16777216)) then (some (([]:(List Int)),8)) else ((Gz p0 (0:Int) a0.2.1).bind fun a2 =>
  (Et F a2).bind fun a5 =>
  (apd 1 a5 a1.1).bind fun a3 =>
  some (a3,0)))))
def K7 (F:Nat) (p0:(List Int)) (p1:ref12_Item):Option ((List Int)×Int) :=
  (Jw F p0).bind fun a0 =>
  bif (bif (a0.2.2 != 0) then (a0.2.2 != 16) else false) then (some (([]:(List Int)),a0.2.2)) else ((Df F p1).bind fun a2 =>
  bif (a2 != 0) then (some (([]:(List Int)),a2)) else (bif (((a0.1.length:Nat):Int)==1000) then (some (([]:(List Int)),13)) else ((Gz p0 (0:Int) a0.2.1).bind fun a3 =>
  (apd 1 ([]:List Int) a3).bind fun a4 =>
  (apd 1 a4 ([0])).bind fun a5 =>
  (Hu F p1).bind fun a6 =>
  (apd 1 a5 a6).bind fun a1 =>
  bif (decide (((a1.length:Nat):Int)>16777216)) then (some (([]:(List Int)),8)) else (some (a1,0)))))
def G2 (F:Nat) (p0:(List Int)) (p1:ref12_Item):Option Bool :=
  bif (decide (((p0.length:Nat):Int)>3000)) then ((Ht F).bind fun a3 =>
  some a3) else ((L7 F ([p1])).bind fun a4 =>
  bif (!a4) then ((Ht F).bind fun a5 =>
  some a5) else ((Jm F p0 (volume_Item.mk p1.Kind p1.Name p1.Time p1.Sweep p1.Field p1.Text)).bind fun a0 =>
  (K7 F p0 p1).bind fun a1 =>
  (Js F a0.1 a1.1).bind fun a2 =>
  (gd (((bif a2 then (a0.2==a1.2) else false)==true&&true)) (Ht F) default).bind fun a6 =>
  some (bif (bif a2 then (a0.2==a1.2) else false) then a6 else false)))
end Go.Proofs.YtifbomimeodibaaGreat
