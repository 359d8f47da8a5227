import Derived.Test.YtifbomimeodibaaGreatV7EB
namespace Go.Proofs.YtifbomimeodibaaGreat
open Go Go.RowKit Go.Eng
set_option maxRecDepth 10000
set_option maxHeartbeats 4000000
set_option linter.unusedVariables false
set_option linter.unusedSimpArgs false
structure volume_reader where
  b:(List Int)
  deriving Inhabited,DecidableEq
structure api_Site where
  Name:ByteArray
  X:Int
  Y:Int
  Z:Int
  Rose:Int
  Gates:Int
  Step:Int
  Width:Int
  deriving Inhabited,DecidableEq
def api_Site.cells (x:api_Site):List Value:=[.string x.Name,.int .i64 x.X,.int .i64 x.Y,.int .i64 x.Z,.int .i64 x.Rose,.int .i64 x.Gates,.int .i64 x.Step,.int .i64 x.Width]
structure api_Span where
  Lo:Int
  Hi:Int
  deriving Inhabited,DecidableEq
def api_Span.cells (x:api_Span):List Value:=[.int .i64 x.Lo,.int .i64 x.Hi]
theorem api_Span.cells_len (x:api_Span):(api_Span.cells x).length=2:=rfl
structure api_Echo where
  Kind:Int
  Power:api_Span
  Steps:(api_Span×api_Span)
  Spread:Int
  Ratio:api_Span
  Match:api_Span
  Turn:api_Span
  deriving Inhabited,DecidableEq
def api_Echo.cells (x:api_Echo):List Value:=[.int .i64 x.Kind,.int .i64 x.Power.Lo,.int .i64 x.Power.Hi,.int .i64 x.Steps.1.Lo,.int .i64 x.Steps.1.Hi,.int .i64 x.Steps.2.Lo,.int .i64 x.Steps.2.Hi,.int .i64 x.Spread,.int .i64 x.Ratio.Lo,.int .i64 x.Ratio.Hi,.int .i64 x.Match.Lo,.int .i64 x.Match.Hi,.int .i64 x.Turn.Lo,.int .i64 x.Turn.Hi]
theorem api_Echo.cells_len (x:api_Echo):(api_Echo.cells x).length=14:=rfl
structure api_Grid where
  X:Int
  Y:Int
  Size:Int
  Wide:Int
  High:Int
  deriving Inhabited,DecidableEq
def api_Grid.cells (x:api_Grid):List Value:=[.int .i64 x.X,.int .i64 x.Y,.int .i64 x.Size,.int .i64 x.Wide,.int .i64 x.High]
structure api_Sweep where
  Site:api_Site
  Tilt:Int
  Time:Int
  Rays:(List (List api_Echo))
  deriving Inhabited,DecidableEq
structure volume_sweep where
  Sweep:api_Sweep
  deriving Inhabited,DecidableEq
structure api_Field where
  Grid:api_Grid
  Vals:(List api_Span)
  deriving Inhabited,DecidableEq
structure volume_field where
  key:ByteArray
  time:Int
  Field:api_Field
  deriving Inhabited,DecidableEq
structure volume_note where
  time:Int
  text:ByteArray
  deriving Inhabited,DecidableEq
def volume_note.cells (x:volume_note):List Value:=[.int .i64 x.time,.string x.text]
structure volume_Item where
  Kind:Int
  Name:ByteArray
  Time:Int
  Sweep:api_Sweep
  Field:api_Field
  Text:ByteArray
  deriving Inhabited,DecidableEq
structure volume_writer where
  b:(List Int)
  deriving Inhabited,DecidableEq
structure ref12_reader where
  b:(List Int)
  bad:Bool
  deriving Inhabited,DecidableEq
structure ref12_Item where
  Kind:Int
  Name:ByteArray
  Time:Int
  Sweep:api_Sweep
  Field:api_Field
  Text:ByteArray
  deriving Inhabited,DecidableEq
structure volume_entry where
  time:Int
  block:(List Int)
  deriving Inhabited,DecidableEq
structure volume_Query where
  Kind:Int
  Name:ByteArray
  From:Int
  To:Int
  deriving Inhabited,DecidableEq
def volume_Query.cells (x:volume_Query):List Value:=[.int .i64 x.Kind,.string x.Name,.int .i64 x.From,.int .i64 x.To]
structure ref12_Query where
  Kind:Int
  Name:ByteArray
  From:Int
  To:Int
  deriving Inhabited,DecidableEq
def ref12_Query.cells (x:ref12_Query):List Value:=[.int .i64 x.Kind,.string x.Name,.int .i64 x.From,.int .i64 x.To]
abbrev api_Site.ar (x:api_Site):Array Value:=#[.string x.Name,.int .i64 x.X,.int .i64 x.Y,.int .i64 x.Z,.int .i64 x.Rose,.int .i64 x.Gates,.int .i64 x.Step,.int .i64 x.Width]
abbrev api_Site.ag (x:api_Site):Value:=.agg #[.string x.Name,.int .i64 x.X,.int .i64 x.Y,.int .i64 x.Z,.int .i64 x.Rose,.int .i64 x.Gates,.int .i64 x.Step,.int .i64 x.Width]
abbrev api_Echo.ar (x:api_Echo):Array Value:=#[.int .i64 x.Kind,.int .i64 x.Power.Lo,.int .i64 x.Power.Hi,.int .i64 x.Steps.1.Lo,.int .i64 x.Steps.1.Hi,.int .i64 x.Steps.2.Lo,.int .i64 x.Steps.2.Hi,.int .i64 x.Spread,.int .i64 x.Ratio.Lo,.int .i64 x.Ratio.Hi,.int .i64 x.Match.Lo,.int .i64 x.Match.Hi,.int .i64 x.Turn.Lo,.int .i64 x.Turn.Hi]
abbrev api_Echo.ag (x:api_Echo):Value:=.agg #[.int .i64 x.Kind,.int .i64 x.Power.Lo,.int .i64 x.Power.Hi,.int .i64 x.Steps.1.Lo,.int .i64 x.Steps.1.Hi,.int .i64 x.Steps.2.Lo,.int .i64 x.Steps.2.Hi,.int .i64 x.Spread,.int .i64 x.Ratio.Lo,.int .i64 x.Ratio.Hi,.int .i64 x.Match.Lo,.int .i64 x.Match.Hi,.int .i64 x.Turn.Lo,.int .i64 x.Turn.Hi]
abbrev api_Grid.ar (x:api_Grid):Array Value:=#[.int .i64 x.X,.int .i64 x.Y,.int .i64 x.Size,.int .i64 x.Wide,.int .i64 x.High]
abbrev api_Grid.ag (x:api_Grid):Value:=.agg #[.int .i64 x.X,.int .i64 x.Y,.int .i64 x.Size,.int .i64 x.Wide,.int .i64 x.High]
abbrev volume_Query.ar (x:volume_Query):Array Value:=#[.int .i64 x.Kind,.string x.Name,.int .i64 x.From,.int .i64 x.To]
abbrev volume_Query.ag (x:volume_Query):Value:=.agg #[.int .i64 x.Kind,.string x.Name,.int .i64 x.From,.int .i64 x.To]
abbrev ref12_Query.ar (x:ref12_Query):Array Value:=#[.int .i64 x.Kind,.string x.Name,.int .i64 x.From,.int .i64 x.To]
abbrev ref12_Query.ag (x:ref12_Query):Value:=.agg #[.int .i64 x.Kind,.string x.Name,.int .i64 x.From,.int .i64 x.To]
abbrev volume_Item.ax (x:volume_Item) (adg1_:Option Addr) (capg2_:Nat) (adg4_:Option Addr) (capg5_:Nat):Array Value:=#[.int .i64 x.Kind,.string x.Name,.int .i64 x.Time,.string x.Sweep.Site.Name,.int .i64 x.Sweep.Site.X,.int .i64 x.Sweep.Site.Y,.int .i64 x.Sweep.Site.Z,.int .i64 x.Sweep.Site.Rose,.int .i64 x.Sweep.Site.Gates,.int .i64 x.Sweep.Site.Step,.int .i64 x.Sweep.Site.Width,.int .i64 x.Sweep.Tilt,.int .i64 x.Sweep.Time,.slice adg1_ x.Sweep.Rays.length capg2_,.int .i64 x.Field.Grid.X,.int .i64 x.Field.Grid.Y,.int .i64 x.Field.Grid.Size,.int .i64 x.Field.Grid.Wide,.int .i64 x.Field.Grid.High,.slice adg4_ x.Field.Vals.length capg5_,.string x.Text]
abbrev ref12_Item.ax (x:ref12_Item) (adg1_:Option Addr) (capg2_:Nat) (adg4_:Option Addr) (capg5_:Nat):Array Value:=#[.int .i64 x.Kind,.string x.Name,.int .i64 x.Time,.string x.Sweep.Site.Name,.int .i64 x.Sweep.Site.X,.int .i64 x.Sweep.Site.Y,.int .i64 x.Sweep.Site.Z,.int .i64 x.Sweep.Site.Rose,.int .i64 x.Sweep.Site.Gates,.int .i64 x.Sweep.Site.Step,.int .i64 x.Sweep.Site.Width,.int .i64 x.Sweep.Tilt,.int .i64 x.Sweep.Time,.slice adg1_ x.Sweep.Rays.length capg2_,.int .i64 x.Field.Grid.X,.int .i64 x.Field.Grid.Y,.int .i64 x.Field.Grid.Size,.int .i64 x.Field.Grid.Wide,.int .i64 x.Field.Grid.High,.slice adg4_ x.Field.Vals.length capg5_,.string x.Text]
abbrev api_Sweep.ax (x:api_Sweep) (adg1_:Option Addr) (capg2_:Nat):Array Value:=#[.string x.Site.Name,.int .i64 x.Site.X,.int .i64 x.Site.Y,.int .i64 x.Site.Z,.int .i64 x.Site.Rose,.int .i64 x.Site.Gates,.int .i64 x.Site.Step,.int .i64 x.Site.Width,.int .i64 x.Tilt,.int .i64 x.Time,.slice adg1_ x.Rays.length capg2_]
abbrev volume_field.ax (x:volume_field) (adg1_:Option Addr) (capg2_:Nat):Array Value:=#[.string x.key,.int .i64 x.time,.int .i64 x.Field.Grid.X,.int .i64 x.Field.Grid.Y,.int .i64 x.Field.Grid.Size,.int .i64 x.Field.Grid.Wide,.int .i64 x.Field.Grid.High,.slice adg1_ x.Field.Vals.length capg2_]
abbrev api_Field.ax (x:api_Field) (adg1_:Option Addr) (capg2_:Nat):Array Value:=#[.int .i64 x.Grid.X,.int .i64 x.Grid.Y,.int .i64 x.Grid.Size,.int .i64 x.Grid.Wide,.int .i64 x.Grid.High,.slice adg1_ x.Vals.length capg2_]
abbrev api_Site.e0 (x:api_Site):Bool:=((x.Name==ByteArray.empty)&&(((x.X:Int)==0)&&(((x.Y:Int)==0)&&(((x.Z:Int)==0)&&(((x.Rose:Int)==0)&&(((x.Gates:Int)==0)&&(((x.Step:Int)==0)&&(((x.Width:Int)==0)&&true))))))))
abbrev api_Echo.e0 (x:api_Echo):Bool:=(((x.Kind:Int)==0)&&(((x.Power.Lo:Int)==0)&&(((x.Power.Hi:Int)==0)&&(((x.Steps.1.Lo:Int)==0)&&(((x.Steps.1.Hi:Int)==0)&&(((x.Steps.2.Lo:Int)==0)&&(((x.Steps.2.Hi:Int)==0)&&(((x.Spread:Int)==0)&&(((x.Ratio.Lo:Int)==0)&&(((x.Ratio.Hi:Int)==0)&&(((x.Match.Lo:Int)==0)&&(((x.Match.Hi:Int)==0)&&(((x.Turn.Lo:Int)==0)&&(((x.Turn.Hi:Int)==0)&&true))))))))))))))
abbrev api_Grid.e0 (x:api_Grid):Bool:=(((x.X:Int)==0)&&(((x.Y:Int)==0)&&(((x.Size:Int)==0)&&(((x.Wide:Int)==0)&&(((x.High:Int)==0)&&true)))))
abbrev volume_Query.e0 (x:volume_Query):Bool:=(((x.Kind:Int)==0)&&((x.Name==ByteArray.empty)&&(((x.From:Int)==0)&&(((x.To:Int)==0)&&true))))
abbrev ref12_Query.e0 (x:ref12_Query):Bool:=(((x.Kind:Int)==0)&&((x.Name==ByteArray.empty)&&(((x.From:Int)==0)&&(((x.To:Int)==0)&&true))))
abbrev z48:Array Value:=#[.int .i64 0,.string ByteArray.empty,.int .i64 0,.string ByteArray.empty,.int .i64 0,.int .i64 0,.int .i64 0,.int .i64 0,.int .i64 0,.int .i64 0,.int .i64 0,.int .i64 0,.int .i64 0,.slice none 0 0,.int .i64 0,.int .i64 0,.int .i64 0,.int .i64 0,.int .i64 0,.slice none 0 0,.string ByteArray.empty]
abbrev A0o:Array Value:=#[.int .i64 0,.int .i64 0,.int .i64 0,.int .i64 0,.int .i64 0,.int .i64 0,.int .i64 0,.int .i64 0,.int .i64 0,.int .i64 0,.int .i64 0,.int .i64 0,.int .i64 0,.int .i64 0]
abbrev z41:Array Value:=#[.string ByteArray.empty,.int .i64 0,.int .i64 0,.int .i64 0,.int .i64 0,.int .i64 0,.int .i64 0,.int .i64 0,.int .i64 0,.int .i64 0,.slice none 0 0]
abbrev z38:Array Value:=#[.string ByteArray.empty,.int .i64 0,.int .i64 0,.int .i64 0,.int .i64 0,.int .i64 0,.int .i64 0,.int .i64 0]
abbrev B1l:Array Value:=#[.string ByteArray.empty,.int .i64 0,.int .i64 0,.int .i64 0,.int .i64 0,.int .i64 0,.int .i64 0,.slice none 0 0]
abbrev z46:Array Value:=#[.int .i64 0,.int .i64 0,.int .i64 0,.int .i64 0,.int .i64 0,.slice none 0 0]
abbrev z43:Array Value:=#[.int .i64 0,.int .i64 0,.int .i64 0,.int .i64 0,.int .i64 0]
def Rp87:Rel (List api_Echo):=fun μ cs x=>∃(ad1:Option Addr) (cap2:Nat),cs=[.slice ad1 x.length cap2]∧ArrM μ 14 api_Echo.cells ad1 cap2 x
theorem Rp87.mono:Rel.Mono Rp87:=by
  intro μ ν cs x hle h;obtain ⟨ad1,cap2,rfl,f0⟩:=h;exact ⟨ad1,cap2,rfl,f0.mono hle⟩
theorem Rp87.one:Rel.One 1 Rp87:=by
  intro μ cs x h;obtain ⟨ad1,cap2,rfl,f0⟩:=h
  all_goals rfl
def Rp156:Rel volume_sweep:=fun μ cs x=>∃(ad1:Option Addr) (cap2:Nat) (css3:List (List Value)),cs=[.string x.Sweep.Site.Name,.int .i64 x.Sweep.Site.X,.int .i64 x.Sweep.Site.Y,.int .i64 x.Sweep.Site.Z,.int .i64 x.Sweep.Site.Rose,.int .i64 x.Sweep.Site.Gates,.int .i64 x.Sweep.Site.Step,.int .i64 x.Sweep.Site.Width,.int .i64 x.Sweep.Tilt,.int .i64 x.Sweep.Time,.slice ad1 x.Sweep.Rays.length cap2]∧ArrQ μ 1 Rp87 ad1 cap2 css3 x.Sweep.Rays
theorem Rp156.mono:Rel.Mono Rp156:=by
  intro μ ν cs x hle h;obtain ⟨ad1,cap2,css3,rfl,f0⟩:=h;exact ⟨ad1,cap2,css3,rfl,f0.mono Rp87.mono hle⟩
def Rp158:Rel volume_field:=fun μ cs x=>∃(ad1:Option Addr) (cap2:Nat),cs=[.string x.key,.int .i64 x.time,.int .i64 x.Field.Grid.X,.int .i64 x.Field.Grid.Y,.int .i64 x.Field.Grid.Size,.int .i64 x.Field.Grid.Wide,.int .i64 x.Field.Grid.High,.slice ad1 x.Field.Vals.length cap2]∧ArrM μ 2 api_Span.cells ad1 cap2 x.Field.Vals
theorem Rp158.mono:Rel.Mono Rp158:=by
  intro μ ν cs x hle h;obtain ⟨ad1,cap2,rfl,f0⟩:=h;exact ⟨ad1,cap2,rfl,f0.mono hle⟩
def Rp48:Rel volume_Item:=fun μ cs x=>∃(ad1:Option Addr) (cap2:Nat) (css3:List (List Value)) (ad4:Option Addr) (cap5:Nat),cs=[.int .i64 x.Kind,.string x.Name,.int .i64 x.Time,.string x.Sweep.Site.Name,.int .i64 x.Sweep.Site.X,.int .i64 x.Sweep.Site.Y,.int .i64 x.Sweep.Site.Z,.int .i64 x.Sweep.Site.Rose,.int .i64 x.Sweep.Site.Gates,.int .i64 x.Sweep.Site.Step,.int .i64 x.Sweep.Site.Width,.int .i64 x.Sweep.Tilt,.int .i64 x.Sweep.Time,.slice ad1 x.Sweep.Rays.length cap2,.int .i64 x.Field.Grid.X,.int .i64 x.Field.Grid.Y,.int .i64 x.Field.Grid.Size,.int .i64 x.Field.Grid.Wide,.int .i64 x.Field.Grid.High,.slice ad4 x.Field.Vals.length cap5,.string x.Text]∧ArrQ μ 1 Rp87 ad1 cap2 css3 x.Sweep.Rays∧ArrM μ 2 api_Span.cells ad4 cap5 x.Field.Vals
theorem Rp48.mono:Rel.Mono Rp48:=by
  intro μ ν cs x hle h;obtain ⟨ad1,cap2,css3,ad4,cap5,rfl,f0,f1⟩:=h;exact ⟨ad1,cap2,css3,ad4,cap5,rfl,f0.mono Rp87.mono hle,f1.mono hle⟩
theorem Rp48.one:Rel.One 21 Rp48:=by
  intro μ cs x h;obtain ⟨ad1,cap2,css3,ad4,cap5,rfl,f0,f1⟩:=h
  all_goals rfl
def Rp49:Rel ref12_Item:=fun μ cs x=>∃(ad1:Option Addr) (cap2:Nat) (css3:List (List Value)) (ad4:Option Addr) (cap5:Nat),cs=[.int .i64 x.Kind,.string x.Name,.int .i64 x.Time,.string x.Sweep.Site.Name,.int .i64 x.Sweep.Site.X,.int .i64 x.Sweep.Site.Y,.int .i64 x.Sweep.Site.Z,.int .i64 x.Sweep.Site.Rose,.int .i64 x.Sweep.Site.Gates,.int .i64 x.Sweep.Site.Step,.int .i64 x.Sweep.Site.Width,.int .i64 x.Sweep.Tilt,.int .i64 x.Sweep.Time,.slice ad1 x.Sweep.Rays.length cap2,.int .i64 x.Field.Grid.X,.int .i64 x.Field.Grid.Y,.int .i64 x.Field.Grid.Size,.int .i64 x.Field.Grid.Wide,.int .i64 x.Field.Grid.High,.slice ad4 x.Field.Vals.length cap5,.string x.Text]∧ArrQ μ 1 Rp87 ad1 cap2 css3 x.Sweep.Rays∧ArrM μ 2 api_Span.cells ad4 cap5 x.Field.Vals
theorem Rp49.mono:Rel.Mono Rp49:=by
  intro μ ν cs x hle h;obtain ⟨ad1,cap2,css3,ad4,cap5,rfl,f0,f1⟩:=h;exact ⟨ad1,cap2,css3,ad4,cap5,rfl,f0.mono Rp87.mono hle,f1.mono hle⟩
theorem Rp49.one:Rel.One 21 Rp49:=by
  intro μ cs x h;obtain ⟨ad1,cap2,css3,ad4,cap5,rfl,f0,f1⟩:=h
  all_goals rfl
def Rp22:Rel (List Int):=fun μ cs x=>∃(ad1:Option Addr) (cap2:Nat),cs=[.slice ad1 x.length cap2]∧ArrM μ 1 (fK .u8) ad1 cap2 x
theorem Rp22.mono:Rel.Mono Rp22:=by
  intro μ ν cs x hle h;obtain ⟨ad1,cap2,rfl,f0⟩:=h;exact ⟨ad1,cap2,rfl,f0.mono hle⟩
def Rp109:Rel volume_entry:=fun μ cs x=>∃(ad1:Option Addr) (cap2:Nat),cs=[.int .i64 x.time,.slice ad1 x.block.length cap2]∧ArrM μ 1 (fK .u8) ad1 cap2 x.block
theorem Rp109.mono:Rel.Mono Rp109:=by
  intro μ ν cs x hle h;obtain ⟨ad1,cap2,rfl,f0⟩:=h;exact ⟨ad1,cap2,rfl,f0.mono hle⟩
theorem Rp109.one:Rel.One 2 Rp109:=by
  intro μ cs x h;obtain ⟨ad1,cap2,rfl,f0⟩:=h
  all_goals rfl
inductive volume_thing where
  | nil_
  | ic156 (x:volume_sweep)
  | ic158 (x:volume_field)
  | ic160 (x:volume_note)
  deriving Inhabited,DecidableEq
def volume_thing.cs {α:Type} (x:volume_thing) (a:α) (a0:volume_sweep→α) (a1:volume_field→α) (a2:volume_note→α):α:=match x with|.nil_=>a|.ic156 x=>a0 x|.ic158 x=>a1 x|.ic160 x=>a2 x 
theorem volume_thing.toNil {α:Type} {x:volume_thing} {a:α} {a0:volume_sweep→α} {a1:volume_field→α} {a2:volume_note→α} {z:α} (hq:x=.nil_) (h:x.cs a a0 a1 a2=z):a=z:=by subst hq;exact h
theorem volume_thing.to156 {α:Type} {x:volume_thing} {y:volume_sweep} {a:α} {a0:volume_sweep→α} {a1:volume_field→α} {a2:volume_note→α} {z:α} (hq:x=.ic156 y) (h:x.cs a a0 a1 a2=z):a0 y=z:=by subst hq;exact h
theorem volume_thing.to158 {α:Type} {x:volume_thing} {y:volume_field} {a:α} {a1:volume_sweep→α} {a0:volume_field→α} {a2:volume_note→α} {z:α} (hq:x=.ic158 y) (h:x.cs a a1 a0 a2=z):a0 y=z:=by subst hq;exact h
theorem volume_thing.to160 {α:Type} {x:volume_thing} {y:volume_note} {a:α} {a1:volume_sweep→α} {a2:volume_field→α} {a0:volume_note→α} {z:α} (hq:x=.ic160 y) (h:x.cs a a1 a2 a0=z):a0 y=z:=by subst hq;exact h
def volume_thing.R (μ:Frz) (v:Value) (x:volume_thing):Prop:=match x with|.nil_=>v=.nilIface|.ic156 y=>∃cs:List Value,v=.iface 156 (.agg cs.toArray)∧Rp156 μ cs y|.ic158 y=>∃cs:List Value,v=.iface 158 (.agg cs.toArray)∧Rp158 μ cs y|.ic160 y=>∃cs:List Value,v=.iface 160 (.agg cs.toArray)∧(RpF volume_note.cells) μ cs y 
theorem volume_thing.R.mono {μ ν:Frz} {v:Value} {x:volume_thing} (h:volume_thing.R μ v x) (hle:μ.le ν):volume_thing.R ν v x:=by
  cases x with
  | nil_=>exact h
  | ic156 y =>
    obtain ⟨cs,h1,h2⟩:=h;exact ⟨cs,h1,Rp156.mono _ _ _ _ hle h2⟩
  | ic158 y =>
    obtain ⟨cs,h1,h2⟩:=h;exact ⟨cs,h1,Rp158.mono _ _ _ _ hle h2⟩
  | ic160 y =>
    obtain ⟨cs,h1,h2⟩:=h;exact ⟨cs,h1,h2⟩
theorem volume_thing.R.one {μ:Frz} {v:Value} {x:volume_thing} (h:volume_thing.R μ v x):v.cells=#[v]∧v.oneCell'=true:=by
  cases x with
  | nil_=>obtain rfl:v=.nilIface:=h;exact ⟨rfl,rfl⟩
  | ic156 y=>obtain ⟨cs,rfl,_⟩:=h;exact ⟨rfl,rfl⟩
  | ic158 y=>obtain ⟨cs,rfl,_⟩:=h;exact ⟨rfl,rfl⟩
  | ic160 y=>obtain ⟨cs,rfl,_⟩:=h;exact ⟨rfl,rfl⟩
def Bm (p0:List Int) (p1:Int):Int:=A5v p0 p1
def J1 (p0:ByteArray):Bool:=A65 p0
def H5:List Int→List Int→Int
  | [],[]=>0
  | [],_::_=>-1
  | _::_,[]=>1
  | x::a,y::b=>if x<y then -1 else if y<x then 1 else H5 a b
def enB (s:volume_entry):Prop:=(-4000000000000000000≤s.time∧s.time≤4000000000000000000)∧∀x∈s.block,0≤x∧x<256
instance (s:volume_entry):Decidable (enB s):=by unfold enB;infer_instance
def E2 (x y:volume_entry):Int:=if x.time=y.time then H5 x.block y.block else x.time-y.time
def Kr (F:Nat) (p0:List volume_entry):Option (List volume_entry) :=
  if (∀s∈p0,enB s)∧p0.length<4611686018427387904 then some (p0.mergeSort fun x y=>decide (E2 x y≤0)) else none
def Uz:volume_entry→List volume_entry→List volume_entry
  | _,[]=>[]
  | p,x::xs=>if x.block=p.block then Uz x xs else x::Uz x xs
def A3v:List volume_entry→List volume_entry
  | []=>[]
  | x::xs=>x::Uz x xs
def J0 (F:Nat) (p0:List volume_entry):Option (List volume_entry) :=
  if (∀s∈p0,enB s)∧p0.length<4611686018427387904 then some (A3v p0) else none
def Hq (p0:(List Int)) (p1:(List Int)):Bool :=
  sEq (bst p0) (bst p1)
def Gb (F:Nat) (p0:(List Int)) (p1:(List Int)):Option Bool :=
  bif (decide (((p0.length:Nat):Int)≥((p1.length:Nat):Int))) then ((H0 p0 (0:Int) ((p1.length:Nat):Int)).bind fun l8 =>
  some (Hq l8 p1)) else (some false)
def Hc {σ:Type} (body:(σ→(Int×(List Int))→Option (σ×Bool))) (c0_:(List Int)) (k1:(Int→σ→Option (σ×Bool))) (a0:Int) (a4:σ):Option (σ×Bool) :=
  bif (bif (decide (a0≥0)) then (decide (a0<((c0_.length:Nat):Int))) else false) then ((ck (a0+1)).bind fun a7 =>
  (H0 c0_ a7 ((c0_.length:Nat):Int)).bind fun a1 =>
  bif (decide ((Bm a1 0)<0)) then ((ck (a0+1)).bind fun a8 =>
  (H0 c0_ a8 ((c0_.length:Nat):Int)).bind fun a5 =>
  (body a4 (a0,a5)).bind fun a2 =>
  bif a2.2 then (some (a2.1,true)) else (some (a2.1,false))) else ((ck (a0+1)).bind fun a9 =>
  (ck (a0+1)).bind fun aA =>
  (ck (aA+(Bm a1 0))).bind fun aB =>
  (H0 c0_ a9 aB).bind fun a6 =>
  (body a4 (a0,a6)).bind fun a3 =>
  bif a3.2 then ((ck (1+(Bm a1 0))).bind fun aC =>
  (ck (a0+aC)).bind fun aD =>
  k1 aD a3.1) else (some (a3.1,false)))) else (some (a4,true))
def Er {σ:Type} (body:(σ→(Int×(List Int))→Option (σ×Bool))) (c0_:(List Int)):Nat→Int→σ→Option (σ×Bool)
  | 0,_,_=>none
  | n+1,a1,a0=>Hc body c0_ (Er body c0_ n) a1 a0
def Gh {σ:Type} (F:Nat) (c0_:(List Int)) (body:σ→(Int×(List Int))→Option (σ×Bool)) (s_:σ):Option (σ×Bool) :=
  Er body c0_ F (Bm c0_ 0) s_
def Uu (p0:(List Int)):Unit :=
  ()
def Ft (p0:volume_reader):Option (Except (Value×volume_reader) (Int×volume_reader)) :=
  some (.error (.iface 128 (.int .i64 7),p0))
def Fu (a2:Int) (a3:Int) (a0:Int) (k2:(Int→Int→Int→Option (Except (Value×volume_reader) (Int×volume_reader)))) (a1:Int):Option (Except (Value×volume_reader) (Int×volume_reader)) :=
  (ck a1).bind fun a4 =>
  (ck (a4-128)).bind fun a5 =>
  (ck (a5*a0)).bind fun a6 =>
  (ck (a3+a6)).bind fun a7 =>
  (ck (a0*127)).bind fun a8 =>
  (ck (a2+1)).bind fun a9 =>
  k2 a9 a7 a8
def Fs (p0:volume_reader) (a2:(List Int)) (k2:(Int→Int→Int→Option (Except (Value×volume_reader) (Int×volume_reader)))) (a1:Int) (a3:Int) (a4:Int):Option (Except (Value×volume_reader) (Int×volume_reader)) :=
  bif (decide (a1<((a2.length:Nat):Int))) then ((Bh a2 a1).bind fun a0 =>
  bif (bif (bif (a0==0) then true else (a0==255)) then true else (bif (a0==1) then (decide (a1>0)) else false)) then (some (.error (.iface 128 (.int .i64 7),p0))) else (bif (decide (a0<128)) then ((ck (a1+1)).bind fun a6 =>
  (H0 p0.b a6 ((p0.b.length:Nat):Int)).bind fun a5 =>
  (ck a0).bind fun a7 =>
  (ck (a7-1)).bind fun a8 =>
  (ck (a8*a4)).bind fun a9 =>
  (ck (a3+a9)).bind fun aA =>
  some (.ok (aA,(volume_reader.mk a5)))) else (Fu a1 a3 a4 k2 a0))) else (Ft p0)
def Bo (p0:volume_reader) (a0:(List Int)):Nat→Int→Int→Int→Option (Except (Value×volume_reader) (Int×volume_reader))
  | 0,_,_,_=>none
  | n+1,a1,a2,a3=>Fs p0 a0 (Bo p0 a0 n) a1 a2 a3
def Ah (F:Nat) (p0:volume_reader):Option (Except (Value×volume_reader) (Int×volume_reader)) :=
  (H0 p0.b (0:Int) (if 8<((p0.b.length:Nat):Int) then 8 else ((p0.b.length:Nat):Int))).bind fun a0 =>
  Bo p0 a0 F 0 0 1
def Do (F:Nat) (p0:volume_reader):Option (Int×Bool×volume_reader) :=
  (Ah F p0).bind fun y5 =>
  exc y5 (fun e7=>(asI 128 .i64 e7.1).bind fun a0 =>
  some (0,false,(volume_reader.mk e7.2.b))) fun y6 =>
  some (y6.1,true,(volume_reader.mk y6.2.b))
def P9 (a0:(List Int)):Option (List Int) :=
  (Bh a0 4).bind fun a2 =>
  (Bh a0 4).bind fun a3 =>
  (A0j a0 4 (IntKind.u8.wrap (a2-127))).bind fun a1 =>
  some a1
def M0 (k3:(Int→Int→Int→(List Int)→Option (List Int))) (a2:Int) (a0:Int) (a3:Int) (a1:(List Int)):Option (List Int) :=
  bif (decide (a0<a2)) then ((Qq a3 127).bind fun a5 =>
  (ck (128+a5)).bind fun a6 =>
  (Bh a1 a0).bind fun a9 =>
  (A0j a1 a0 (IntKind.u8.wrap a6)).bind fun a4 =>
  (Pn a3 127).bind fun a7 =>
  (ck (a0+1)).bind fun a8 =>
  k3 a2 a8 a7 a4) else (P9 a1)
def G1:Nat→Int→Int→Int→(List Int)→Option (List Int)
  | 0,_,_,_,_=>none
  | n+1,a1,a2,a3,a0=>M0 (G1 n) a1 a2 a3 a0
def P8 (F:Nat) (a1:Int):Option (List Int) :=
  (mkI 1 5 0).bind fun a0 =>
  G1 F ((a0.length:Nat):Int) 0 a1 a0
def P7 (F:Nat) (p0:(List Int)) (k4:(Int→Int→Option (List Int))) (a0:Int) (a1:Int):Option (List Int) :=
  bif (decide (a0<((p0.length:Nat):Int))) then ((Bh p0 a0).bind fun a2 =>
  (ck (31*a1)).bind fun a3 =>
  (ck a2).bind fun a4 =>
  (ck (a3+a4)).bind fun a5 =>
  (Qq a5 2147483647).bind fun a6 =>
  (ck (a0+1)).bind fun a7 =>
  k4 a7 a6) else (P8 F a1)
def Km (F:Nat) (p0:(List Int)):Nat→Int→Int→Option (List Int)
  | 0,_,_=>none
  | n+1,a0,a1=>P7 F p0 (Km F p0 n) a0 a1
def Ma (F:Nat) (p0:(List Int)):Option (List Int) :=
  Km F p0 F 0 1
def Js (F:Nat) (p0:Int):Option (Except Value Unit) :=
  bif (p0 != 0) then (some (.error (.iface 128 (.int .i64 7)))) else (some (.ok ()))
def Gs (y5:(Int×volume_reader)):Option (Except (Value×volume_reader) (ByteArray×volume_reader)) :=
  (H0 y5.2.b (0:Int) y5.1).bind fun a0 =>
  (H0 y5.2.b y5.1 ((y5.2.b.length:Nat):Int)).bind fun a1 =>
  some (.ok ((bst a0),(volume_reader.mk a1)))
def Ea (F:Nat) (p0:volume_reader):Option (Except (Value×volume_reader) (ByteArray×volume_reader)) :=
  (Ah F p0).bind fun y4 =>
  exc y4 (fun e6=>some (.error (e6.1,(volume_reader.mk e6.2.b)))) fun y5 =>
  bif (decide (y5.1>((y5.2.b.length:Nat):Int))) then (some (.error (.iface 128 (.int .i64 7),(volume_reader.mk y5.2.b)))) else (Gs y5)
def C0 (F:Nat) (p0:volume_reader):Option (Except (Value×volume_reader) (Int×volume_reader)) :=
  (Ah F p0).bind fun y4 =>
  exc y4 (fun e6=>some (.error (e6.1,(volume_reader.mk e6.2.b)))) fun y5 =>
  (Qq y5.1 2).bind fun a0 =>
  bif (a0==1) then ((ck (y5.1+1)).bind fun a1 =>
  (Pn (IntKind.i64.wrap (0-a1)) 2).bind fun a2 =>
  some (.ok (a2,(volume_reader.mk y5.2.b)))) else ((Pn y5.1 2).bind fun a3 =>
  some (.ok (a3,(volume_reader.mk y5.2.b))))
def Py (F:Nat) (p0:ByteArray):Option Bool :=
  (gd (((bif (!(sEq p0 (⟨#[]⟩:ByteArray))) then (decide (((p0.size:Nat):Int)≤12)) else false)==true&&true)) (Su p0 (0:Int)) default).bind fun u1 =>
  (gd (((bif (bif (!(sEq p0 (⟨#[]⟩:ByteArray))) then (decide (((p0.size:Nat):Int)≤12)) else false) then (decide (u1≥97)) else false)==true&&true)) (Su p0 (0:Int)) default).bind fun u2 =>
  some (bif (bif (bif (bif (!(sEq p0 (⟨#[]⟩:ByteArray))) then (decide (((p0.size:Nat):Int)≤12)) else false) then (decide (u1≥97)) else false) then (decide (u2≤122)) else false) then (!(J1 p0)) else false)
def Ae (p0:Int) (p1:Int) (p2:Int):Bool :=
  bif (decide (p1≤p0)) then (decide (p0≤p2)) else false
def Ee (c4:Bool):Option Int :=
  bif c4 then (some 3) else (some 0)
def F6 (p0:api_Site) (c3:Bool):Option Int :=
  bif c3 then (some 3) else (bif (!(Ae p0.Rose 1 90)) then (Ee (!(Ae p0.Rose 1 90))) else (bif (!(Ae p0.Gates 1 200)) then (Ee (!(Ae p0.Gates 1 200))) else (bif (!(Ae p0.Step 50 2000)) then (Ee (!(Ae p0.Step 50 2000))) else (Ee (!(Ae p0.Width 0 8))))))
def G2 (F:Nat) (p0:api_Site):Option Int :=
  (Py F p0.Name).bind fun y2 =>
  bif (!y2) then (some 10) else (bif (!(Ae p0.X (-1048576) 1048576)) then (F6 p0 (!(Ae p0.X (-1048576) 1048576))) else (bif (!(Ae p0.Y (-1048576) 1048576)) then (F6 p0 (!(Ae p0.Y (-1048576) 1048576))) else (F6 p0 (!(Ae p0.Z 0 20000)))))
def Bw (F:Nat) (p0:volume_reader):Option (Except (Value×volume_reader) (api_Span×volume_reader)) :=
  (C0 F p0).bind fun y5 =>
  exc y5 (fun e7=>some (.error (e7.1,(volume_reader.mk e7.2.b)))) fun y6 =>
  (Ah F (volume_reader.mk y6.2.b)).bind fun a3 =>
  exc a3 (fun a0=>some (.error (a0.1,(volume_reader.mk a0.2.b)))) fun a1 =>
  (ck (y6.1+a1.1)).bind fun a2 =>
  some (.ok ((api_Span.mk y6.1 a2),(volume_reader.mk a1.2.b)))
def Gn (F:Nat) (p0:volume_reader):Option (Except (Value×volume_reader) (api_Echo×volume_reader)) :=
  (Ah F p0).bind fun y5 =>
  exc y5 (fun e7=>some (.error (e7.1,(volume_reader.mk e7.2.b)))) fun y6 =>
  bif (y6.1==1) then ((Ah F (volume_reader.mk y6.2.b)).bind fun aI =>
  exc aI (fun a9=>some (.error (a9.1,(volume_reader.mk a9.2.b)))) fun aF =>
  some (.ok ((api_Echo.mk y6.1 (api_Span.mk 0 aF.1) ((api_Span.mk 0 0),(api_Span.mk 0 0)) 0 (api_Span.mk 0 0) (api_Span.mk 0 0) (api_Span.mk 0 0)),(volume_reader.mk aF.2.b)))) else ((Bw F (volume_reader.mk y6.2.b)).bind fun aJ =>
  exc aJ (fun aA=>some (.error (aA.1,(volume_reader.mk aA.2.b)))) fun a0 =>
  (Bw F (volume_reader.mk a0.2.b)).bind fun aK =>
  exc aK (fun aB=>some (.error (aB.1,(volume_reader.mk aB.2.b)))) fun a1 =>
  (Bw F (volume_reader.mk a1.2.b)).bind fun aL =>
  exc aL (fun aC=>some (.error (aC.1,(volume_reader.mk aC.2.b)))) fun a2 =>
  (Ah F (volume_reader.mk a2.2.b)).bind fun aM =>
  exc aM (fun aD=>some (.error (aD.1,(volume_reader.mk aD.2.b)))) fun a3 =>
  bif (y6.1==3) then ((Bw F (volume_reader.mk a3.2.b)).bind fun aN =>
  exc aN (fun aE=>some (.error (aE.1,(volume_reader.mk aE.2.b)))) fun a6 =>
  (Bw F (volume_reader.mk a6.2.b)).bind fun aG =>
  exc aG (fun a7=>some (.error (a7.1,(volume_reader.mk a7.2.b)))) fun a4 =>
  (Bw F (volume_reader.mk a4.2.b)).bind fun aH =>
  exc aH (fun a8=>some (.error (a8.1,(volume_reader.mk a8.2.b)))) fun a5 =>
  some (.ok ((api_Echo.mk y6.1 (api_Span.mk a0.1.Lo a0.1.Hi) ((api_Span.mk a6.1.Lo a6.1.Hi),(api_Span.mk a4.1.Lo a4.1.Hi)) a3.1 (api_Span.mk a1.1.Lo a1.1.Hi) (api_Span.mk a2.1.Lo a2.1.Hi) (api_Span.mk a5.1.Lo a5.1.Hi)),(volume_reader.mk a5.2.b)))) else (some (.ok ((api_Echo.mk y6.1 (api_Span.mk a0.1.Lo a0.1.Hi) ((api_Span.mk 0 0),(api_Span.mk 0 0)) a3.1 (api_Span.mk a1.1.Lo a1.1.Hi) (api_Span.mk a2.1.Lo a2.1.Hi) (api_Span.mk 0 0)),(volume_reader.mk a3.2.b)))))
def Dp (c2:Bool):Int :=
  bif c2 then (3) else (0)
def Br (p0:api_Grid):Int :=
  bif (!(Ae p0.X (-1048576) 1048576)) then (Dp (!(Ae p0.X (-1048576) 1048576))) else (bif (!(Ae p0.Y (-1048576) 1048576)) then (Dp (!(Ae p0.Y (-1048576) 1048576))) else (bif (!(Ae p0.Size 1 10000)) then (Dp (!(Ae p0.Size 1 10000))) else (bif (!(Ae p0.Wide 1 64)) then (Dp (!(Ae p0.Wide 1 64))) else (Dp (!(Ae p0.High 1 64))))))
def Cj (a2:Int) (a3:Int) (a4:Int) (a5:Int) (a6:Int) (a7:Int) (a8:Int) (a9:Int) (aA:Int) (aB:Int) (aC:Int) (aD:Int) (aE:Int) (aF:Int) (a0:(List Int)) (a1:(List api_Echo)):Option (Except (Value×volume_reader) ((List api_Echo)×volume_reader)) :=
  some (.ok (a1,(volume_reader.mk a0)))
def Du (k2:(Int→Int→Int→Int→Int→Int→Int→Int→Int→Int→Int→Int→Int→Int→(List Int)→(List api_Echo)→Option (Except (Value×volume_reader) ((List api_Echo)×volume_reader)))) (a1:(List api_Echo)) (a0:(api_Echo×volume_reader)):Option (Except (Value×volume_reader) ((List api_Echo)×volume_reader)) :=
  (apd 112 a1 ([(api_Echo.mk a0.1.Kind (api_Span.mk a0.1.Power.Lo a0.1.Power.Hi) ((api_Span.mk a0.1.Steps.1.Lo a0.1.Steps.1.Hi),(api_Span.mk a0.1.Steps.2.Lo a0.1.Steps.2.Hi)) a0.1.Spread (api_Span.mk a0.1.Ratio.Lo a0.1.Ratio.Hi) (api_Span.mk a0.1.Match.Lo a0.1.Match.Hi) (api_Span.mk a0.1.Turn.Lo a0.1.Turn.Hi))])).bind fun a2 =>
  k2 a0.1.Kind a0.1.Power.Lo a0.1.Match.Lo a0.1.Match.Hi a0.1.Turn.Lo a0.1.Turn.Hi a0.1.Power.Hi a0.1.Steps.1.Lo a0.1.Steps.1.Hi a0.1.Steps.2.Lo a0.1.Steps.2.Hi a0.1.Spread a0.1.Ratio.Lo a0.1.Ratio.Hi a0.2.b a2
def Ck (F:Nat) (p1:Int) (a3:Int) (a4:Int) (a5:Int) (a6:Int) (a7:Int) (a8:Int) (a9:Int) (aA:Int) (aB:Int) (aC:Int) (aD:Int) (aE:Int) (aF:Int) (aG:Int) (k2:(Int→Int→Int→Int→Int→Int→Int→Int→Int→Int→Int→Int→Int→Int→(List Int)→(List api_Echo)→Option (Except (Value×volume_reader) ((List api_Echo)×volume_reader)))) (aH:(Int×volume_reader)) (a1:(List api_Echo)):Option (Except (Value×volume_reader) ((List api_Echo)×volume_reader)) :=
  bif (decide (((a1.length:Nat):Int)<p1)) then ((Gn F (volume_reader.mk aH.2.b)).bind fun aI =>
  exc aI (fun a2=>some (.error (a2.1,(volume_reader.mk a2.2.b)))) fun a0 =>
  bif (((a0.1.Kind:Int)==a3)&&((((a0.1.Power.Lo:Int)==a4)&&(((a0.1.Power.Hi:Int)==a9)&&true))&&(((((a0.1.Steps.1.Lo:Int)==aA)&&(((a0.1.Steps.1.Hi:Int)==aB)&&true))&&((((a0.1.Steps.2.Lo:Int)==aC)&&(((a0.1.Steps.2.Hi:Int)==aD)&&true))&&true))&&(((a0.1.Spread:Int)==aE)&&((((a0.1.Ratio.Lo:Int)==aF)&&(((a0.1.Ratio.Hi:Int)==aG)&&true))&&((((a0.1.Match.Lo:Int)==a5)&&(((a0.1.Match.Hi:Int)==a6)&&true))&&((((a0.1.Turn.Lo:Int)==a7)&&(((a0.1.Turn.Hi:Int)==a8)&&true))&&true))))))) then (some (.error (.iface 128 (.int .i64 7),(volume_reader.mk a0.2.b)))) else (Du k2 a1 a0)) else (k2 a3 a4 a5 a6 a7 a8 a9 aA aB aC aD aE aF aG aH.2.b a1)
def Dr (F:Nat) (p1:Int) (a1:Int) (a2:Int) (a3:Int) (a4:Int) (a5:Int) (a6:Int) (a7:Int) (a8:Int) (a9:Int) (aA:Int) (aB:Int) (aC:Int) (aD:Int) (aE:Int) (k2:(Int→Int→Int→Int→Int→Int→Int→Int→Int→Int→Int→Int→Int→Int→(List Int)→(List api_Echo)→Option (Except (Value×volume_reader) ((List api_Echo)×volume_reader)))) (aG:(Int×volume_reader)) (k6:(Int→(List api_Echo)→Option (Except (Value×volume_reader) ((List api_Echo)×volume_reader)))) (aF:Int) (a0:(List api_Echo)):Option (Except (Value×volume_reader) ((List api_Echo)×volume_reader)) :=
  bif (decide (aF<aG.1)) then ((apd 112 a0 ([(api_Echo.mk a1 (api_Span.mk a2 a7) ((api_Span.mk a8 a9),(api_Span.mk aA aB)) aC (api_Span.mk aD aE) (api_Span.mk a3 a4) (api_Span.mk a5 a6))])).bind fun aH =>
  (ck (aF+1)).bind fun aI =>
  k6 aI aH) else (Ck F p1 a1 a2 a3 a4 a5 a6 a7 a8 a9 aA aB aC aD aE k2 aG a0)
def Bc (F:Nat) (p1:Int) (a0:Int) (a1:Int) (a2:Int) (a3:Int) (a4:Int) (a5:Int) (a6:Int) (a7:Int) (a8:Int) (a9:Int) (aA:Int) (aB:Int) (aC:Int) (aD:Int) (k2:(Int→Int→Int→Int→Int→Int→Int→Int→Int→Int→Int→Int→Int→Int→(List Int)→(List api_Echo)→Option (Except (Value×volume_reader) ((List api_Echo)×volume_reader)))) (aE:(Int×volume_reader)):Nat→Int→(List api_Echo)→Option (Except (Value×volume_reader) ((List api_Echo)×volume_reader))
  | 0,_,_=>none
  | n+1,aG,aF=>Dr F p1 a0 a1 a2 a3 a4 a5 a6 a7 a8 a9 aA aB aC aD k2 aE (Bc F p1 a0 a1 a2 a3 a4 a5 a6 a7 a8 a9 aA aB aC aD k2 aE n) aG aF
def Dt (F:Nat) (p1:Int) (a1:Int) (a2:Int) (a3:Int) (a4:Int) (a5:Int) (a6:Int) (a7:Int) (a8:Int) (a9:Int) (aA:Int) (aB:Int) (aC:Int) (aD:Int) (aE:Int) (a0:(List api_Echo)) (k2:(Int→Int→Int→Int→Int→Int→Int→Int→Int→Int→Int→Int→Int→Int→(List Int)→(List api_Echo)→Option (Except (Value×volume_reader) ((List api_Echo)×volume_reader)))) (aF:(Int×volume_reader)):Option (Except (Value×volume_reader) ((List api_Echo)×volume_reader)) :=
  Bc F p1 a1 a2 a3 a4 a5 a6 a7 a8 a9 aA aB aC aD aE k2 aF F 0 a0
def Ci (F:Nat) (p1:Int) (k2:(Int→Int→Int→Int→Int→Int→Int→Int→Int→Int→Int→Int→Int→Int→(List Int)→(List api_Echo)→Option (Except (Value×volume_reader) ((List api_Echo)×volume_reader)))) (a4:Int) (a5:Int) (a6:Int) (a7:Int) (a8:Int) (a9:Int) (aA:Int) (aB:Int) (aC:Int) (aD:Int) (aE:Int) (aF:Int) (aG:Int) (aH:Int) (a3:(List Int)) (a0:(List api_Echo)):Option (Except (Value×volume_reader) ((List api_Echo)×volume_reader)) :=
  bif (decide (((a0.length:Nat):Int)<p1)) then ((Ah F (volume_reader.mk a3)).bind fun aJ =>
  exc aJ (fun a2=>some (.error (a2.1,(volume_reader.mk a2.2.b)))) fun a1 =>
  (ck (p1-((a0.length:Nat):Int))).bind fun aI =>
  bif (decide (a1.1>aI)) then (some (.error (.iface 128 (.int .i64 7),(volume_reader.mk a1.2.b)))) else (Dt F p1 a4 a5 a6 a7 a8 a9 aA aB aC aD aE aF aG aH a0 k2 a1)) else (Cj a4 a5 a6 a7 a8 a9 aA aB aC aD aE aF aG aH a3 a0)
def B1 (F:Nat) (p1:Int):Nat→Int→Int→Int→Int→Int→Int→Int→Int→Int→Int→Int→Int→Int→Int→(List Int)→(List api_Echo)→Option (Except (Value×volume_reader) ((List api_Echo)×volume_reader))
  | 0,_,_,_,_,_,_,_,_,_,_,_,_,_,_,_,_=>none
  | n+1,a2,a3,a4,a5,a6,a7,a8,a9,aA,aB,aC,aD,aE,aF,a0,a1=>Ci F p1 (B1 F p1 n) a2 a3 a4 a5 a6 a7 a8 a9 aA aB aC aD aE aF a0 a1
def D0 (F:Nat) (p0:volume_reader) (p1:Int) (p2:api_Echo):Option (Except (Value×volume_reader) ((List api_Echo)×volume_reader)) :=
  B1 F p1 F p2.Kind p2.Power.Lo p2.Match.Lo p2.Match.Hi p2.Turn.Lo p2.Turn.Hi p2.Power.Hi p2.Steps.1.Lo p2.Steps.1.Hi p2.Steps.2.Lo p2.Steps.2.Hi p2.Spread p2.Ratio.Lo p2.Ratio.Hi p0.b ([])
def Cm (a2:Int) (a3:Int) (a0:(List Int)) (a1:(List api_Span)):Option (Except (Value×volume_reader) ((List api_Span)×volume_reader)) :=
  some (.ok (a1,(volume_reader.mk a0)))
def Dx (k2:(Int→Int→(List Int)→(List api_Span)→Option (Except (Value×volume_reader) ((List api_Span)×volume_reader)))) (a1:(List api_Span)) (a0:(api_Span×volume_reader)):Option (Except (Value×volume_reader) ((List api_Span)×volume_reader)) :=
  (apd 16 a1 ([(api_Span.mk a0.1.Lo a0.1.Hi)])).bind fun a2 =>
  k2 a0.1.Lo a0.1.Hi a0.2.b a2
def Cn (F:Nat) (p1:Int) (a3:Int) (a4:Int) (k2:(Int→Int→(List Int)→(List api_Span)→Option (Except (Value×volume_reader) ((List api_Span)×volume_reader)))) (a5:(Int×volume_reader)) (a1:(List api_Span)):Option (Except (Value×volume_reader) ((List api_Span)×volume_reader)) :=
  bif (decide (((a1.length:Nat):Int)<p1)) then ((Bw F (volume_reader.mk a5.2.b)).bind fun a6 =>
  exc a6 (fun a2=>some (.error (a2.1,(volume_reader.mk a2.2.b)))) fun a0 =>
  bif (((a0.1.Lo:Int)==a3)&&(((a0.1.Hi:Int)==a4)&&true)) then (some (.error (.iface 128 (.int .i64 7),(volume_reader.mk a0.2.b)))) else (Dx k2 a1 a0)) else (k2 a3 a4 a5.2.b a1)
def Dv (F:Nat) (p1:Int) (a1:Int) (a2:Int) (k2:(Int→Int→(List Int)→(List api_Span)→Option (Except (Value×volume_reader) ((List api_Span)×volume_reader)))) (a4:(Int×volume_reader)) (k6:(Int→(List api_Span)→Option (Except (Value×volume_reader) ((List api_Span)×volume_reader)))) (a3:Int) (a0:(List api_Span)):Option (Except (Value×volume_reader) ((List api_Span)×volume_reader)) :=
  bif (decide (a3<a4.1)) then ((apd 16 a0 ([(api_Span.mk a1 a2)])).bind fun a5 =>
  (ck (a3+1)).bind fun a6 =>
  k6 a6 a5) else (Cn F p1 a1 a2 k2 a4 a0)
def Bd (F:Nat) (p1:Int) (a0:Int) (a1:Int) (k2:(Int→Int→(List Int)→(List api_Span)→Option (Except (Value×volume_reader) ((List api_Span)×volume_reader)))) (a2:(Int×volume_reader)):Nat→Int→(List api_Span)→Option (Except (Value×volume_reader) ((List api_Span)×volume_reader))
  | 0,_,_=>none
  | n+1,a4,a3=>Dv F p1 a0 a1 k2 a2 (Bd F p1 a0 a1 k2 a2 n) a4 a3
def Dw (F:Nat) (p1:Int) (a1:Int) (a2:Int) (a0:(List api_Span)) (k2:(Int→Int→(List Int)→(List api_Span)→Option (Except (Value×volume_reader) ((List api_Span)×volume_reader)))) (a3:(Int×volume_reader)):Option (Except (Value×volume_reader) ((List api_Span)×volume_reader)) :=
  Bd F p1 a1 a2 k2 a3 F 0 a0
def Cl (F:Nat) (p1:Int) (k2:(Int→Int→(List Int)→(List api_Span)→Option (Except (Value×volume_reader) ((List api_Span)×volume_reader)))) (a4:Int) (a5:Int) (a3:(List Int)) (a0:(List api_Span)):Option (Except (Value×volume_reader) ((List api_Span)×volume_reader)) :=
  bif (decide (((a0.length:Nat):Int)<p1)) then ((Ah F (volume_reader.mk a3)).bind fun a7 =>
  exc a7 (fun a2=>some (.error (a2.1,(volume_reader.mk a2.2.b)))) fun a1 =>
  (ck (p1-((a0.length:Nat):Int))).bind fun a6 =>
  bif (decide (a1.1>a6)) then (some (.error (.iface 128 (.int .i64 7),(volume_reader.mk a1.2.b)))) else (Dw F p1 a4 a5 a0 k2 a1)) else (Cm a4 a5 a3 a0)
def B2 (F:Nat) (p1:Int):Nat→Int→Int→(List Int)→(List api_Span)→Option (Except (Value×volume_reader) ((List api_Span)×volume_reader))
  | 0,_,_,_,_=>none
  | n+1,a2,a3,a0,a1=>Cl F p1 (B2 F p1 n) a2 a3 a0 a1
def D1 (F:Nat) (p0:volume_reader) (p1:Int) (p2:api_Span):Option (Except (Value×volume_reader) ((List api_Span)×volume_reader)) :=
  B2 F p1 F p2.Lo p2.Hi p0.b ([])
def G9 (a0:(List Int)):Option (Except (Value×volume_reader) (volume_thing×volume_reader)) :=
  some (.error (.iface 128 (.int .i64 7),(volume_reader.mk a0)))
def Ez (a8:(ByteArray×volume_reader)) (a9:(Int×volume_reader)) (aA:(Int×volume_reader)) (a1:Int) (a2:Int) (a3:Int) (a4:Int) (a5:Int) (a6:Int) (a7:Int) (aB:((List api_Echo)×volume_reader)) (a0:(List (List api_Echo))):Option (Except (Value×volume_reader) (volume_thing×volume_reader)) :=
  some (.ok ((volume_thing.ic156 (volume_sweep.mk (api_Sweep.mk (api_Site.mk a8.1 a9.1 aA.1 a1 a2 a3 a4 a5) a6 a7 a0))),(volume_reader.mk aB.2.b)))
def G8 (aC:(ByteArray×volume_reader)) (aD:(Int×volume_reader)) (aE:(Int×volume_reader)) (a6:Int) (a7:Int) (a1:Int) (a8:Int) (a9:Int) (aA:Int) (aB:Int) (aF:((List api_Echo)×volume_reader)) (k4:((List (List api_Echo))→(List api_Echo)→Option (Except (Value×volume_reader) (volume_thing×volume_reader)))) (a2:(List (List api_Echo))) (a0:(List api_Echo)):Option (Except (Value×volume_reader) (volume_thing×volume_reader)) :=
  bif (decide (((a0.length:Nat):Int)>0)) then ((H0 a0 (0:Int) a1).bind fun a3 =>
  (apd 24 a2 ([a3])).bind fun a4 =>
  (H0 a0 a1 ((a0.length:Nat):Int)).bind fun a5 =>
  k4 a4 a5) else (Ez aC aD aE a6 a7 a1 a8 a9 aA aB aF a2)
def Cw (a7:(ByteArray×volume_reader)) (a8:(Int×volume_reader)) (a9:(Int×volume_reader)) (a0:Int) (a1:Int) (a2:Int) (a3:Int) (a4:Int) (a5:Int) (a6:Int) (aA:((List api_Echo)×volume_reader)):Nat→(List (List api_Echo))→(List api_Echo)→Option (Except (Value×volume_reader) (volume_thing×volume_reader))
  | 0,_,_=>none
  | n+1,aB,aC=>G8 a7 a8 a9 a0 a1 a2 a3 a4 a5 a6 aA (Cw a7 a8 a9 a0 a1 a2 a3 a4 a5 a6 aA n) aB aC
def Ey (F:Nat) (a7:(ByteArray×volume_reader)) (a8:(Int×volume_reader)) (a9:(Int×volume_reader)) (a4:Int) (a0:Int) (a1:Int) (a5:Int) (a6:Int) (aB:Int) (aC:Int) (a3:(List Int)):Option (Except (Value×volume_reader) (volume_thing×volume_reader)) :=
  (G2 F (api_Site.mk a7.1 a8.1 a9.1 a4 a0 a1 a5 a6)).bind fun aF =>
  (Js F aF).bind fun aG =>
  exc aG (fun v_=>some (.error (v_,(volume_reader.mk a3)))) fun aI =>
  (ck (4*a0)).bind fun aD =>
  (ck (aD*a1)).bind fun aE =>
  (D0 F (volume_reader.mk a3) aE (api_Echo.mk 1 (api_Span.mk 0 0) ((api_Span.mk 0 0),(api_Span.mk 0 0)) 0 (api_Span.mk 0 0) (api_Span.mk 0 0) (api_Span.mk 0 0))).bind fun aH =>
  exc aH (fun a2=>some (.error (a2.1,(volume_reader.mk a2.2.b)))) fun aA =>
  Cw a7 a8 a9 a4 a0 a1 a5 a6 aB aC aA F ([]) aA.1
def Cy (F:Nat) (p0:volume_reader):Option (Except (Value×volume_reader) (volume_thing×volume_reader)) :=
  (Ah F p0).bind fun bL =>
  exc bL (fun aK=>some (.error (aK.1,(volume_reader.mk aK.2.b)))) fun a0 =>
  bif (a0.1==1) then ((Ea F (volume_reader.mk a0.2.b)).bind fun bM =>
  exc bM (fun aL=>some (.error (aL.1,(volume_reader.mk aL.2.b)))) fun b0 =>
  (C0 F (volume_reader.mk b0.2.b)).bind fun bN =>
  exc bN (fun aM=>some (.error (aM.1,(volume_reader.mk aM.2.b)))) fun b1 =>
  (C0 F (volume_reader.mk b1.2.b)).bind fun bO =>
  exc bO (fun aN=>some (.error (aN.1,(volume_reader.mk aN.2.b)))) fun b2 =>
  (Ah F (volume_reader.mk b2.2.b)).bind fun bP =>
  exc bP (fun aO=>some (.error (aO.1,(volume_reader.mk aO.2.b)))) fun b3 =>
  (Ah F (volume_reader.mk b3.2.b)).bind fun bQ =>
  exc bQ (fun aP=>some (.error (aP.1,(volume_reader.mk aP.2.b)))) fun b4 =>
  (Ah F (volume_reader.mk b4.2.b)).bind fun bR =>
  exc bR (fun aQ=>some (.error (aQ.1,(volume_reader.mk aQ.2.b)))) fun b5 =>
  (Ah F (volume_reader.mk b5.2.b)).bind fun bS =>
  exc bS (fun a6=>some (.error (a6.1,(volume_reader.mk a6.2.b)))) fun aR =>
  (Ah F (volume_reader.mk aR.2.b)).bind fun b7 =>
  exc b7 (fun a7=>some (.error (a7.1,(volume_reader.mk a7.2.b)))) fun aS =>
  (Ah F (volume_reader.mk aS.2.b)).bind fun b8 =>
  exc b8 (fun a8=>some (.error (a8.1,(volume_reader.mk a8.2.b)))) fun aT =>
  (Ah F (volume_reader.mk aT.2.b)).bind fun b9 =>
  exc b9 (fun a9=>some (.error (a9.1,(volume_reader.mk a9.2.b)))) fun aU =>
  Ey F b0 b1 b2 b3.1 b4.1 b5.1 aR.1 aS.1 aT.1 aU.1 aU.2.b) else (bif (a0.1==2) then ((Ea F (volume_reader.mk a0.2.b)).bind fun bA =>
  exc bA (fun aA=>some (.error (aA.1,(volume_reader.mk aA.2.b)))) fun aV =>
  (Ah F (volume_reader.mk aV.2.b)).bind fun bB =>
  exc bB (fun aB=>some (.error (aB.1,(volume_reader.mk aB.2.b)))) fun aW =>
  (C0 F (volume_reader.mk aW.2.b)).bind fun bC =>
  exc bC (fun aC=>some (.error (aC.1,(volume_reader.mk aC.2.b)))) fun a3 =>
  (C0 F (volume_reader.mk a3.2.b)).bind fun bD =>
  exc bD (fun aD=>some (.error (aD.1,(volume_reader.mk aD.2.b)))) fun a4 =>
  (Ah F (volume_reader.mk a4.2.b)).bind fun bE =>
  exc bE (fun aE=>some (.error (aE.1,(volume_reader.mk aE.2.b)))) fun a5 =>
  (Ah F (volume_reader.mk a5.2.b)).bind fun bF =>
  exc bF (fun aF=>some (.error (aF.1,(volume_reader.mk aF.2.b)))) fun a2 =>
  (Ah F (volume_reader.mk a2.2.b)).bind fun bG =>
  exc bG (fun aG=>some (.error (aG.1,(volume_reader.mk aG.2.b)))) fun a1 =>
  (Js F (Br (api_Grid.mk a3.1 a4.1 a5.1 a2.1 a1.1))).bind fun bH =>
  exc bH (fun v_=>some (.error (v_,(volume_reader.mk a1.2.b)))) fun bT =>
  (ck (a2.1*a1.1)).bind fun b6 =>
  (D1 F (volume_reader.mk a1.2.b) b6 (api_Span.mk 0 0)).bind fun bI =>
  exc bI (fun aH=>some (.error (aH.1,(volume_reader.mk aH.2.b)))) fun aX =>
  some (.ok ((volume_thing.ic158 (volume_field.mk aV.1 aW.1 (api_Field.mk (api_Grid.mk a3.1 a4.1 a5.1 a2.1 a1.1) aX.1))),(volume_reader.mk aX.2.b)))) else (bif (a0.1==3) then ((Ah F (volume_reader.mk a0.2.b)).bind fun bJ =>
  exc bJ (fun aI=>some (.error (aI.1,(volume_reader.mk aI.2.b)))) fun aY =>
  (Ea F (volume_reader.mk aY.2.b)).bind fun bK =>
  exc bK (fun aJ=>some (.error (aJ.1,(volume_reader.mk aJ.2.b)))) fun aZ =>
  some (.ok ((volume_thing.ic160 (volume_note.mk aY.1 aZ.1)),(volume_reader.mk aZ.2.b)))) else (G9 a0.2.b)))
def Ax (p0:Int) (p1:Int) (p2:Int):Bool :=
  bif (decide (p1≤p0)) then (decide (p0≤p2)) else false
def Ag (p0:api_Span) (p1:Int) (p2:Int):Bool :=
  bif (bif (decide (p1≤p0.Lo)) then (decide (p0.Lo≤p0.Hi)) else false) then (decide (p0.Hi≤p2)) else false
def Lg:Option Bool :=
  some true
def H4 (p0:(List api_Span)) (k2:(Int→Option Bool)) (a1:Int):Option Bool :=
  bif (decide (a1<((p0.length:Nat):Int))) then ((Bh p0 a1).bind fun a0 =>
  (gd (((!(Ax a0.Lo (-32768) 32767))==false&&true)) (ck (a0.Lo+65536)) 0).bind fun a2 =>
  (gd (((!(Ax a0.Lo (-32768) 32767))==false&&true)) (ck (a2-1)) 0).bind fun a3 =>
  bif (bif (!(Ax a0.Lo (-32768) 32767)) then true else (!(Ax a0.Hi a0.Lo a3))) then (some false) else ((ck (a1+1)).bind fun a4 =>
  k2 a4)) else (Lg)
def Ex (p0:(List api_Span)):Nat→Int→Option Bool
  | 0,_=>none
  | n+1,a0=>H4 p0 (Ex p0 n) a0
def Lu (F:Nat) (p0:(List api_Span)):Option Bool :=
  Ex p0 F 0
def E3 (c7:Bool):Option Int :=
  bif (!c7) then (some 3) else (some 0)
def D4 (F:Nat) (p0:api_Echo) (c9:Bool):Option Int :=
  bif c9 then (bif (p0.Kind==2) then (E3 (bif (bif (bif (bif (bif (bif (Ag p0.Power 0 1073741824) then (decide (p0.Power.Lo>0)) else false) then (Ag p0.Ratio 0 1000000) else false) then (Ag p0.Match 0 1000) else false) then (Ax p0.Spread 0 65535) else false) then ((((p0.Steps.1.Lo:Int)==0)&&(((p0.Steps.1.Hi:Int)==0)&&true))&&((((p0.Steps.2.Lo:Int)==0)&&(((p0.Steps.2.Hi:Int)==0)&&true))&&true)) else false) then (((p0.Turn.Lo:Int)==0)&&(((p0.Turn.Hi:Int)==0)&&true)) else false)) else (bif (bif (bif (bif (bif (Ag p0.Power 0 1073741824) then (decide (p0.Power.Lo>0)) else false) then (Ag p0.Ratio 0 1000000) else false) then (Ag p0.Match 0 1000) else false) then (Ax p0.Spread 0 65535) else false) then ((Lu F ([(api_Span.mk p0.Steps.1.Lo p0.Steps.1.Hi),(api_Span.mk p0.Steps.2.Lo p0.Steps.2.Hi),p0.Turn])).bind fun a0 =>
  E3 a0) else (E3 false))) else (some 2)
def Gd (F:Nat) (p0:api_Echo):Option Int :=
  bif (p0.Kind==1) then (E3 (bif (Ag p0.Power 0 1073741824) then (((p0.Kind:Int)==1)&&((((p0.Power.Lo:Int)==0)&&(((p0.Power.Hi:Int)==p0.Power.Hi)&&true))&&(((((p0.Steps.1.Lo:Int)==0)&&(((p0.Steps.1.Hi:Int)==0)&&true))&&((((p0.Steps.2.Lo:Int)==0)&&(((p0.Steps.2.Hi:Int)==0)&&true))&&true))&&(((p0.Spread:Int)==0)&&((((p0.Ratio.Lo:Int)==0)&&(((p0.Ratio.Hi:Int)==0)&&true))&&((((p0.Match.Lo:Int)==0)&&(((p0.Match.Hi:Int)==0)&&true))&&((((p0.Turn.Lo:Int)==0)&&(((p0.Turn.Hi:Int)==0)&&true))&&true))))))) else false)) else (bif (p0.Kind==2) then (D4 F p0 (p0.Kind==2)) else (D4 F p0 (p0.Kind==3)))
def Jf:Option Int :=
  some 0
def Ff (a0:Int) (k3:(Int→Option Int)):Option Int :=
  (ck (a0+1)).bind fun a1 =>
  k3 a1
def Gk (F:Nat) (a4:Int) (k3:(Int→Option Int)) (a2:(List api_Echo)) (k5:(Int→Option Int)) (a1:Int):Option Int :=
  bif (decide (a1<((a2.length:Nat):Int))) then ((Bh a2 a1).bind fun a0 =>
  (Gd F (api_Echo.mk a0.Kind a0.Power ((api_Span.mk a0.Steps.1.Lo a0.Steps.1.Hi),(api_Span.mk a0.Steps.2.Lo a0.Steps.2.Hi)) a0.Spread a0.Ratio a0.Match a0.Turn)).bind fun a3 =>
  bif (a3 != 0) then (some a3) else ((ck (a1+1)).bind fun a5 =>
  k5 a5)) else (Ff a4 k3)
def Cu (F:Nat) (a1:Int) (k3:(Int→Option Int)) (a0:(List api_Echo)):Nat→Int→Option Int
  | 0,_=>none
  | n+1,a2=>Gk F a1 k3 a0 (Cu F a1 k3 a0 n) a2
def Gj (F:Nat) (p0:api_Sweep) (k3:(Int→Option Int)) (a0:Int):Option Int :=
  bif (decide (a0<((p0.Rays.length:Nat):Int))) then ((Bh p0.Rays a0).bind fun a1 =>
  Cu F a0 k3 a1 F 0) else (Jf)
def Ct (F:Nat) (p0:api_Sweep):Nat→Int→Option Int
  | 0,_=>none
  | n+1,a0=>Gj F p0 (Ct F p0 n) a0
def Gm (F:Nat) (p0:api_Sweep):Option Int :=
  Ct F p0 F 0
def Gl (F:Nat) (p0:api_Sweep) (k6:(Int→Option Int)) (a0:Int):Option Int :=
  bif (decide (a0<((p0.Rays.length:Nat):Int))) then ((Bh p0.Rays a0).bind fun a1 =>
  bif (((a1.length:Nat):Int) != p0.Site.Gates) then (some 11) else ((ck (a0+1)).bind fun a2 =>
  k6 a2)) else (Gm F p0)
def Dl (F:Nat) (p0:api_Sweep):Nat→Int→Option Int
  | 0,_=>none
  | n+1,a0=>Gl F p0 (Dl F p0 n) a0
def Ca (F:Nat) (p0:api_Sweep):Option Int :=
  (G2 F p0.Site).bind fun y6 =>
  bif (y6 != 0) then (some y6) else (bif (bif (!(Ax p0.Tilt 0 256)) then true else (!(Ax p0.Time 0 4294967296))) then (some 3) else ((ck (4*p0.Site.Rose)).bind fun x7 =>
  bif (((p0.Rays.length:Nat):Int) != x7) then (some 11) else (Dl F p0 F 0)))
def Es (F:Nat) (p0:volume_sweep):Option Int :=
  (Ca F p0.Sweep).bind fun y6 =>
  some y6
def Nr:Option Int :=
  some 0
def Ls (p0:api_Field) (p1:Int) (k2:(Int→Option Int)) (a1:Int):Option Int :=
  bif (decide (a1<((p0.Vals.length:Nat):Int))) then ((Bh p0.Vals a1).bind fun a0 =>
  bif (bif (bif (decide (a0.Lo<0)) then true else (decide (a0.Hi<a0.Lo))) then true else (decide (a0.Hi>p1))) then (some 3) else ((ck (a1+1)).bind fun a2 =>
  k2 a2)) else (Nr)
def Gv (p0:api_Field) (p1:Int):Nat→Int→Option Int
  | 0,_=>none
  | n+1,a0=>Ls p0 p1 (Gv p0 p1 n) a0
def Q2 (F:Nat) (p0:api_Field) (p1:Int):Option Int :=
  bif ((Br p0.Grid) != 0) then (some (Br p0.Grid)) else ((ck (p0.Grid.Wide*p0.Grid.High)).bind fun x5 =>
  bif (((p0.Vals.length:Nat):Int) != x5) then (some 11) else (Gv p0 p1 F 0))
def Ga (F:Nat) (p0:api_Field):Option Int :=
  (Q2 F p0 1073741824).bind fun y5 =>
  some y5
def C2 (F:Nat) (p0:volume_field):Option Int :=
  (Py F p0.key).bind fun y5 =>
  bif (!y5) then (some 10) else (bif (bif (decide (p0.time<0)) then true else (decide (p0.time>4294967296))) then (some 3) else ((Ga F p0.Field).bind fun y6 =>
  some y6))
def J3:Option Int :=
  some 0
def G5 (a1:(List Int)) (k2:(Int→Option Int)) (a0:Int):Option Int :=
  bif (decide (a0<((a1.length:Nat):Int))) then ((Bh a1 a0).bind fun a2 =>
  bif (bif (decide (a2<32)) then true else (decide (a2>126))) then (some 7) else ((ck (a0+1)).bind fun a3 =>
  k2 a3)) else (J3)
def Ch (a0:(List Int)):Nat→Int→Option Int
  | 0,_=>none
  | n+1,a1=>G5 a0 (Ch a0 n) a1
def Cg (F:Nat) (p0:volume_note):Option Int :=
  bif (bif (decide (p0.time<0)) then true else (decide (p0.time>4294967296))) then (some 3) else (bif (decide (((p0.text.size:Nat):Int)>200)) then (some 8) else ((s2b p0.text).bind fun a0 =>
  Ch a0 F 0))
def K1 (F:Nat) (p0:volume_thing):Option Int:=p0.cs none (fun y=>Es F y) (fun y=>C2 F y) (fun y=>Cg F y)
def Kn (F:Nat) (p0:(List Int)):Option (volume_thing×Int) :=
  (Do F (volume_reader.mk p0)).bind fun y7 =>
  bif (!y7.2.1) then (some (volume_thing.nil_,15)) else ((ck (y7.1+5)).bind fun a5 =>
  bif (((y7.2.2.b.length:Nat):Int) != a5) then (some (volume_thing.nil_,15)) else ((ck (((p0.length:Nat):Int)-5)).bind fun a6 =>
  (H0 p0 a6 ((p0.length:Nat):Int)).bind fun a2 =>
  (ck (((p0.length:Nat):Int)-5)).bind fun a7 =>
  (H0 p0 (0:Int) a7).bind fun a3 =>
  (Ma F a3).bind fun a8 =>
  bif (!(Hq a2 a8)) then (some (volume_thing.nil_,15)) else ((H0 y7.2.2.b (0:Int) y7.1).bind fun a4 =>
  (Cy F (volume_reader.mk a4)).bind fun a9 =>
  exc a9 (fun a1=>(asI 128 .i64 a1.1).bind fun aC =>
  some (volume_thing.nil_,aC)) fun a0 =>
  (K1 F a0.1).bind fun aA =>
  (Js F aA).bind fun aB =>
  exc aB (fun v_=>(asI 128 .i64 v_).bind fun aD =>
  some (volume_thing.nil_,aD)) fun aE =>
  bif (decide (((a0.2.b.length:Nat):Int)>0)) then (some (volume_thing.nil_,7)) else (some (a0.1,0)))))
def Lc (F:Nat) (p0:(List Int)) (a1:Bool):Option Bool :=
  (Do F (volume_reader.mk p0)).bind fun a0 =>
  bif a1 then (some true) else (bif a0.2.1 then ((ck (a0.1+5)).bind fun a2 =>
  some (decide (((a0.2.2.b.length:Nat):Int)<a2))) else (some false))
def N8 (F:Nat) (p0:(List Int)) (k2:(Int→Bool→Option Bool)) (a0:Int) (a1:Bool):Option Bool :=
  bif (decide (a0<((p0.length:Nat):Int))) then ((Bh p0 a0).bind fun a2 =>
  (ck (a0+1)).bind fun a3 =>
  k2 a3 (bif (bif a1 then (decide (a2≥128)) else false) then (decide (a2≤254)) else false)) else (Lc F p0 a1)
def Jq (F:Nat) (p0:(List Int)):Nat→Int→Bool→Option Bool
  | 0,_,_=>none
  | n+1,a1,a0=>N8 F p0 (Jq F p0 n) a1 a0
def Pl (F:Nat) (p0:(List Int)):Option Bool :=
  Jq F p0 F 0 true
def Aw (p0:volume_sweep):volume_Item :=
  (volume_Item.mk 1 ByteArray.empty 0 p0.Sweep (api_Field.mk (api_Grid.mk 0 0 0 0 0) ([]:(List api_Span))) ByteArray.empty)
def Av (p0:volume_field):volume_Item :=
  (volume_Item.mk 2 p0.key p0.time (api_Sweep.mk (api_Site.mk ByteArray.empty 0 0 0 0 0 0 0) 0 0 ([]:(List (List api_Echo)))) p0.Field ByteArray.empty)
def Ay (p0:volume_note):volume_Item :=
  (volume_Item.mk 3 ByteArray.empty p0.time (api_Sweep.mk (api_Site.mk ByteArray.empty 0 0 0 0 0 0 0) 0 0 ([]:(List (List api_Echo)))) (api_Field.mk (api_Grid.mk 0 0 0 0 0) ([]:(List api_Span))) p0.text)
def Kt (F:Nat) (p0:volume_thing):Option volume_Item:=p0.cs none (fun y=>some (Aw y)) (fun y=>some (Av y)) (fun y=>some (Ay y))
def Fc (a0:(List volume_Item)) (a1:Int) (a2:Int):Option ((List volume_Item)×Int×Int) :=
  bif (decide (((a0.length:Nat):Int)>1000)) then (some (([]:(List volume_Item)),0,9)) else (some (a0,a1,a2))
def Jp (F:Nat) (p0:(List Int)) (s_r:((List volume_Item)×Int×Int×Nat)) (x_:(Int×(List Int))):Option (((List volume_Item)×Int×Int×Nat)×Bool) :=
  (Kn F x_.2).bind fun a0 =>
  bif (a0.2 != 0) then ((ck (x_.1+1)).bind fun a3 =>
  (ck (a3+((x_.2.length:Nat):Int))).bind fun a1 =>
  (gd (((a1==((p0.length:Nat):Int))==true&&true)) (Pl F x_.2) default).bind fun a4 =>
  bif (bif (a1==((p0.length:Nat):Int)) then a4 else false) then (some ((s_r.1,x_.1,16,3),false)) else (some ((s_r.1,x_.1,a0.2,3),false))) else ((Kt F a0.1).bind fun a5 =>
  (apd 224 s_r.1 ([a5])).bind fun a2 =>
  some ((a2,s_r.2.1,s_r.2.2.1,0),true))
def L9 (tg_:Nat):Code:=(bif (tg_==3) then .exit 1 else .ret)
def C9 (F:Nat) (p0:(List Int)):Option ((List volume_Item)×Int×Int) :=
  bif (decide (((p0.length:Nat):Int)>16777216)) then (some (([]:(List volume_Item)),0,8)) else ((Gb F p0 ([82,86,70,49])).bind fun y9 =>
  (gd (((decide (((p0.length:Nat):Int)>4))==true&&((!y9)==false&&true))) (Bh p0 4) default).bind fun a1 =>
  bif (bif (!y9) then true else (bif (decide (((p0.length:Nat):Int)>4)) then (a1 != 0) else false)) then (some (([]:(List volume_Item)),0,7)) else ((Gh F p0 (Jp F p0) (([]:List volume_Item),((p0.length:Nat):Int),0,0)).bind fun a0 =>
  bif a0.2 then (Fc a0.1.1 a0.1.2.1 a0.1.2.2.1) else (bif (a0.1.2.2.2==3) then (Fc a0.1.1 a0.1.2.1 a0.1.2.2.1) else (none))))
def N3 (F:Nat) (s_r:((List volume_Item)×Int×Nat)) (x_:(Int×(List Int))):Option (((List volume_Item)×Int×Nat)×Bool) :=
  (Kn F x_.2).bind fun a0 =>
  bif (a0.2==0) then ((Kt F a0.1).bind fun a3 =>
  (apd 224 s_r.1 ([a3])).bind fun a1 =>
  some ((a1,s_r.2.1,0),true)) else ((ck (s_r.2.1+1)).bind fun a2 =>
  some ((s_r.1,a2,0),true))
def N4 (tg_:Nat):Code:=.ret
def Qv (F:Nat) (p0:(List Int)):Option ((List volume_Item)×Int×Int) :=
  bif (decide (((p0.length:Nat):Int)>16777216)) then (some (([]:(List volume_Item)),0,8)) else ((Gh F p0 (N3 F) (([]:List volume_Item),0,0)).bind fun a0 =>
  bif a0.2 then (bif (decide (((a0.1.1.length:Nat):Int)>1000)) then (some (([]:(List volume_Item)),0,9)) else (some (a0.1.1,a0.1.2.1,0))) else (none))
def F4 (p0:volume_Item):volume_thing :=
  bif (p0.Kind==1) then (bif (bif (bif (bif (bif (!(sEq p0.Name ((Aw (volume_sweep.mk p0.Sweep)).Name))) then true else (p0.Time != ((Aw (volume_sweep.mk p0.Sweep)).Time))) then true else (!(sEq p0.Text ((Aw (volume_sweep.mk p0.Sweep)).Text)))) then true else false) then true else (!(bif (((p0.Field.Grid.X:Int)==0)&&(((p0.Field.Grid.Y:Int)==0)&&(((p0.Field.Grid.Size:Int)==0)&&(((p0.Field.Grid.Wide:Int)==0)&&(((p0.Field.Grid.High:Int)==0)&&true))))) then (((p0.Field.Vals.length:Nat):Int)==0) else false))) then (volume_thing.nil_) else ((volume_thing.ic156 (volume_sweep.mk p0.Sweep)))) else (bif (p0.Kind==2) then (bif (bif (bif (bif (bif (!(sEq p0.Name ((Av (volume_field.mk p0.Name p0.Time p0.Field)).Name))) then true else (p0.Time != ((Av (volume_field.mk p0.Name p0.Time p0.Field)).Time))) then true else (!(sEq p0.Text ((Av (volume_field.mk p0.Name p0.Time p0.Field)).Text)))) then true else (!(bif (bif (bif ((p0.Sweep.Site.Name==ByteArray.empty)&&(((p0.Sweep.Site.X:Int)==0)&&(((p0.Sweep.Site.Y:Int)==0)&&(((p0.Sweep.Site.Z:Int)==0)&&(((p0.Sweep.Site.Rose:Int)==0)&&(((p0.Sweep.Site.Gates:Int)==0)&&(((p0.Sweep.Site.Step:Int)==0)&&(((p0.Sweep.Site.Width:Int)==0)&&true)))))))) then (p0.Sweep.Tilt==0) else false) then (p0.Sweep.Time==0) else false) then (((p0.Sweep.Rays.length:Nat):Int)==0) else false))) then true else false) then (volume_thing.nil_) else ((volume_thing.ic158 (volume_field.mk p0.Name p0.Time p0.Field)))) else (bif (p0.Kind==3) then (bif (bif (bif (bif (bif (!(sEq p0.Name ((Ay (volume_note.mk p0.Time p0.Text)).Name))) then true else (p0.Time != ((Ay (volume_note.mk p0.Time p0.Text)).Time))) then true else (!(sEq p0.Text ((Ay (volume_note.mk p0.Time p0.Text)).Text)))) then true else (!(bif (bif (bif ((p0.Sweep.Site.Name==ByteArray.empty)&&(((p0.Sweep.Site.X:Int)==0)&&(((p0.Sweep.Site.Y:Int)==0)&&(((p0.Sweep.Site.Z:Int)==0)&&(((p0.Sweep.Site.Rose:Int)==0)&&(((p0.Sweep.Site.Gates:Int)==0)&&(((p0.Sweep.Site.Step:Int)==0)&&(((p0.Sweep.Site.Width:Int)==0)&&true)))))))) then (p0.Sweep.Tilt==0) else false) then (p0.Sweep.Time==0) else false) then (((p0.Sweep.Rays.length:Nat):Int)==0) else false))) then true else (!(bif (((p0.Field.Grid.X:Int)==0)&&(((p0.Field.Grid.Y:Int)==0)&&(((p0.Field.Grid.Size:Int)==0)&&(((p0.Field.Grid.Wide:Int)==0)&&(((p0.Field.Grid.High:Int)==0)&&true))))) then (((p0.Field.Vals.length:Nat):Int)==0) else false))) then (volume_thing.nil_) else ((volume_thing.ic160 (volume_note.mk p0.Time p0.Text)))) else (volume_thing.nil_)))
def Qw (F:Nat) (p0:volume_Item):Option (volume_thing×Int) :=
  volume_thing.cs (F4 p0) (some (volume_thing.nil_,2)) (fun a0=>(Es F a0).bind fun a1 =>
  some ((volume_thing.ic156 a0),a1)) (fun a0=>(C2 F a0).bind fun a2 =>
  some ((volume_thing.ic158 a0),a2)) (fun a0=>(Cg F a0).bind fun a3 =>
  some ((volume_thing.ic160 a0),a3))
def Fx (a1:Int) (k1:((List Int)→Int→Option volume_writer)) (a0:(List Int)):Option volume_writer :=
  (ck (a1+1)).bind fun a2 =>
  k1 a0 a2
def Fy (a2:Int) (k1:((List Int)→Int→Option volume_writer)) (a0:(List Int)) (a3:Int):Option volume_writer :=
  (ck (1+a3)).bind fun a4 =>
  (apd 1 a0 ([IntKind.u8.wrap a4])).bind fun a1 =>
  Fx a2 k1 a1
def Fw (a3:Int) (k1:((List Int)→Int→Option volume_writer)) (k4:((List Int)→Int→Option volume_writer)) (a1:(List Int)) (a0:Int):Option volume_writer :=
  bif (decide (a0≥127)) then ((Qq a0 127).bind fun a4 =>
  (ck (128+a4)).bind fun a5 =>
  (apd 1 a1 ([IntKind.u8.wrap a5])).bind fun a2 =>
  (Pn a0 127).bind fun a6 =>
  k4 a2 a6) else (Fy a3 k1 a1 a0)
def Dh (a0:Int) (k1:((List Int)→Int→Option volume_writer)):Nat→(List Int)→Int→Option volume_writer
  | 0,_,_=>none
  | n+1,a1,a2=>Fw a0 k1 (Dh a0 k1 n) a1 a2
def Fv (F:Nat) (p1:(List Int)) (k1:((List Int)→Int→Option volume_writer)) (a1:(List Int)) (a0:Int):Option volume_writer :=
  bif (decide (a0<((p1.length:Nat):Int))) then ((Bh p1 a0).bind fun a2 =>
  Dh a0 k1 F a1 a2) else (some (volume_writer.mk a1))
def Dg (F:Nat) (p1:(List Int)):Nat→(List Int)→Int→Option volume_writer
  | 0,_,_=>none
  | n+1,a0,a1=>Fv F p1 (Dg F p1 n) a0 a1
def Ar (F:Nat) (p0:volume_writer) (p1:(List Int)):Option volume_writer :=
  Dg F p1 F p0.b 0
def Ec (F:Nat) (p0:volume_writer) (p1:ByteArray):Option volume_writer :=
  (Ar F p0 ([((p1.size:Nat):Int)])).bind fun y8 =>
  (apd 1 y8.b (sby p1)).bind fun a0 =>
  some (volume_writer.mk a0)
def D2 (a1:Int) (k1:((List Int)→Int→Option volume_writer)) (a0:(List Int)):Option volume_writer :=
  (ck (a1+1)).bind fun a2 =>
  k1 a0 a2
def Fl (F:Nat) (p1:(List Int)) (k1:((List Int)→Int→Option volume_writer)) (a1:(List Int)) (a0:Int):Option volume_writer :=
  bif (decide (a0<((p1.length:Nat):Int))) then ((Bh p1 a0).bind fun a2 =>
  bif (decide (a2<0)) then ((ck ((-2)*a2)).bind fun a3 =>
  (ck (a3-1)).bind fun a4 =>
  (Ar F (volume_writer.mk a1) ([a4])).bind fun a6 =>
  D2 a0 k1 a6.b) else ((ck (2*a2)).bind fun a5 =>
  (Ar F (volume_writer.mk a1) ([a5])).bind fun a7 =>
  D2 a0 k1 a7.b)) else (some (volume_writer.mk a1))
def Bu (F:Nat) (p1:(List Int)):Nat→(List Int)→Int→Option volume_writer
  | 0,_,_=>none
  | n+1,a0,a1=>Fl F p1 (Bu F p1 n) a0 a1
def D8 (F:Nat) (p0:volume_writer) (p1:(List Int)):Option volume_writer :=
  Bu F p1 F p0.b 0
def Eb (F:Nat) (p0:volume_writer) (p1:api_Span):Option volume_writer :=
  (D8 F p0 ([p1.Lo])).bind fun y9 =>
  (ck (p1.Hi-p1.Lo)).bind fun a0 =>
  (Ar F y9 ([a0])).bind fun a1 =>
  some a1
def D6 (F:Nat) (p1:api_Echo) (k2:((List Int)→Int→Option volume_writer)) (a1:(List Int)) (a0:Int):Option volume_writer :=
  bif (decide (a0<((3:Nat):Int))) then ((Bh ([(api_Span.mk p1.Steps.1.Lo p1.Steps.1.Hi),(api_Span.mk p1.Steps.2.Lo p1.Steps.2.Hi),p1.Turn]) a0).bind fun a2 =>
  (Eb F (volume_writer.mk a1) a2).bind fun a4 =>
  (ck (a0+1)).bind fun a3 =>
  k2 a4.b a3) else (some (volume_writer.mk a1))
def Ce (F:Nat) (p1:api_Echo):Nat→(List Int)→Int→Option volume_writer
  | 0,_,_=>none
  | n+1,a0,a1=>D6 F p1 (Ce F p1 n) a0 a1
def Gt (F:Nat) (p1:api_Echo) (a1:(List Int)):Option volume_writer :=
  (Ar F (volume_writer.mk a1) ([p1.Spread])).bind fun a0 =>
  bif (p1.Kind==3) then (Ce F p1 F a0.b 0) else (some a0)
def D7 (F:Nat) (p1:api_Echo) (k3:((List Int)→Int→Option volume_writer)) (a1:(List Int)) (a0:Int):Option volume_writer :=
  bif (decide (a0<((3:Nat):Int))) then ((Bh ([p1.Power,p1.Ratio,p1.Match]) a0).bind fun a2 =>
  (Eb F (volume_writer.mk a1) a2).bind fun a4 =>
  (ck (a0+1)).bind fun a3 =>
  k3 a4.b a3) else (Gt F p1 a1)
def Cf (F:Nat) (p1:api_Echo):Nat→(List Int)→Int→Option volume_writer
  | 0,_,_=>none
  | n+1,a0,a1=>D7 F p1 (Cf F p1 n) a0 a1
def Gp (F:Nat) (p0:volume_writer) (p1:api_Echo):Option volume_writer :=
  (Ar F p0 ([p1.Kind])).bind fun y9 =>
  bif (p1.Kind==1) then ((Ar F y9 ([p1.Power.Hi])).bind fun a0 =>
  some a0) else (Cf F p1 F y9.b 0)
def C4 (F:Nat) (a7:Int) (a8:Int) (a9:Int) (aA:Int) (aB:Int) (aC:Int) (aD:Int) (aE:Int) (aF:Int) (aG:Int) (aH:Int) (aI:Int) (aJ:Int) (aK:Int) (a5:(List Int)) (a2:(List api_Echo)) (k1:(Int→Int→Int→Int→Int→Int→Int→Int→Int→Int→Int→Int→Int→Int→(List Int)→(List api_Echo)→Option volume_writer)) (a3:Int):Option volume_writer :=
  (Ar F (volume_writer.mk a5) ([a3])).bind fun a4 =>
  (H0 a2 a3 ((a2.length:Nat):Int)).bind fun a1 =>
  bif (decide (((a1.length:Nat):Int)>0)) then ((Bh a1 0).bind fun a0 =>
  (H0 a1 1 ((a1.length:Nat):Int)).bind fun a6 =>
  (Gp F a4 (api_Echo.mk a0.Kind a0.Power ((api_Span.mk a0.Steps.1.Lo a0.Steps.1.Hi),(api_Span.mk a0.Steps.2.Lo a0.Steps.2.Hi)) a0.Spread a0.Ratio a0.Match a0.Turn)).bind fun aL =>
  k1 a0.Kind a0.Power.Lo a0.Match.Lo a0.Match.Hi a0.Turn.Lo a0.Turn.Hi a0.Power.Hi a0.Steps.1.Lo a0.Steps.1.Hi a0.Steps.2.Lo a0.Steps.2.Hi a0.Spread a0.Ratio.Lo a0.Ratio.Hi aL.b a6) else (k1 a7 a8 a9 aA aB aC aD aE aF aG aH aI aJ aK a4.b a1)
def D9 (F:Nat) (a3:Int) (a4:Int) (a5:Int) (a6:Int) (a7:Int) (a8:Int) (a9:Int) (aA:Int) (aB:Int) (aC:Int) (aD:Int) (aE:Int) (aF:Int) (aG:Int) (aH:(List Int)) (a2:(List api_Echo)) (k1:(Int→Int→Int→Int→Int→Int→Int→Int→Int→Int→Int→Int→Int→Int→(List Int)→(List api_Echo)→Option volume_writer)) (k3:(Int→Option volume_writer)) (a1:Int):Option volume_writer :=
  (gd (((decide (a1<((a2.length:Nat):Int)))==true&&true)) (Bh a2 a1) default).bind fun a0 =>
  bif (bif (decide (a1<((a2.length:Nat):Int))) then (((a0.Kind:Int)==a3)&&((((a0.Power.Lo:Int)==a4)&&(((a0.Power.Hi:Int)==a9)&&true))&&(((((a0.Steps.1.Lo:Int)==aA)&&(((a0.Steps.1.Hi:Int)==aB)&&true))&&((((a0.Steps.2.Lo:Int)==aC)&&(((a0.Steps.2.Hi:Int)==aD)&&true))&&true))&&(((a0.Spread:Int)==aE)&&((((a0.Ratio.Lo:Int)==aF)&&(((a0.Ratio.Hi:Int)==aG)&&true))&&((((a0.Match.Lo:Int)==a5)&&(((a0.Match.Hi:Int)==a6)&&true))&&((((a0.Turn.Lo:Int)==a7)&&(((a0.Turn.Hi:Int)==a8)&&true))&&true))))))) else false) then ((ck (a1+1)).bind fun aI =>
  k3 aI) else (C4 F a3 a4 a5 a6 a7 a8 a9 aA aB aC aD aE aF aG aH a2 k1 a1)
def Bj (F:Nat) (a2:Int) (a3:Int) (a4:Int) (a5:Int) (a6:Int) (a7:Int) (a8:Int) (a9:Int) (aA:Int) (aB:Int) (aC:Int) (aD:Int) (aE:Int) (aF:Int) (a0:(List Int)) (a1:(List api_Echo)) (k1:(Int→Int→Int→Int→Int→Int→Int→Int→Int→Int→Int→Int→Int→Int→(List Int)→(List api_Echo)→Option volume_writer)):Nat→Int→Option volume_writer
  | 0,_=>none
  | n+1,aG=>D9 F a2 a3 a4 a5 a6 a7 a8 a9 aA aB aC aD aE aF a0 a1 k1 (Bj F a2 a3 a4 a5 a6 a7 a8 a9 aA aB aC aD aE aF a0 a1 k1 n) aG
def C3 (F:Nat) (k1:(Int→Int→Int→Int→Int→Int→Int→Int→Int→Int→Int→Int→Int→Int→(List Int)→(List api_Echo)→Option volume_writer)) (a2:Int) (a3:Int) (a4:Int) (a5:Int) (a6:Int) (a7:Int) (a8:Int) (a9:Int) (aA:Int) (aB:Int) (aC:Int) (aD:Int) (aE:Int) (aF:Int) (a0:(List Int)) (a1:(List api_Echo)):Option volume_writer :=
  bif (decide (((a1.length:Nat):Int)>0)) then (Bj F a2 a3 a4 a5 a6 a7 a8 a9 aA aB aC aD aE aF a0 a1 k1 F 0) else (some (volume_writer.mk a0))
def B7 (F:Nat):Nat→Int→Int→Int→Int→Int→Int→Int→Int→Int→Int→Int→Int→Int→Int→(List Int)→(List api_Echo)→Option volume_writer
  | 0,_,_,_,_,_,_,_,_,_,_,_,_,_,_,_,_=>none
  | n+1,a2,a3,a4,a5,a6,a7,a8,a9,aA,aB,aC,aD,aE,aF,a0,a1=>C3 F (B7 F n) a2 a3 a4 a5 a6 a7 a8 a9 aA aB aC aD aE aF a0 a1
def Cq (F:Nat) (p0:volume_writer) (p1:(List api_Echo)) (p2:api_Echo):Option volume_writer :=
  B7 F F p2.Kind p2.Power.Lo p2.Match.Lo p2.Match.Hi p2.Turn.Lo p2.Turn.Hi p2.Power.Hi p2.Steps.1.Lo p2.Steps.1.Hi p2.Steps.2.Lo p2.Steps.2.Hi p2.Spread p2.Ratio.Lo p2.Ratio.Hi p0.b p1
def Hh (F:Nat) (a1:volume_writer) (a0:(List api_Echo)):Option volume_writer :=
  (Cq F a1 a0 (api_Echo.mk 1 (api_Span.mk 0 0) ((api_Span.mk 0 0),(api_Span.mk 0 0)) 0 (api_Span.mk 0 0) (api_Span.mk 0 0) (api_Span.mk 0 0))).bind fun a2 =>
  some a2
def Hg (F:Nat) (p0:volume_sweep) (a5:volume_writer) (k2:((List api_Echo)→Int→Option volume_writer)) (a1:(List api_Echo)) (a0:Int):Option volume_writer :=
  bif (decide (a0<((p0.Sweep.Rays.length:Nat):Int))) then ((Bh p0.Sweep.Rays a0).bind fun a3 =>
  (apd 112 a1 a3).bind fun a2 =>
  (ck (a0+1)).bind fun a4 =>
  k2 a2 a4) else (Hh F a5 a1)
def Ek (F:Nat) (p0:volume_sweep) (a0:volume_writer):Nat→(List api_Echo)→Int→Option volume_writer
  | 0,_,_=>none
  | n+1,a1,a2=>Hg F p0 a0 (Ek F p0 a0 n) a1 a2
def Hd (F:Nat) (p0:volume_sweep) (p1:volume_writer):Option volume_writer :=
  (Ar F p1 ([1])).bind fun a0 =>
  (Ec F a0 p0.Sweep.Site.Name).bind fun a1 =>
  (D8 F a1 ([p0.Sweep.Site.X,p0.Sweep.Site.Y])).bind fun a2 =>
  (Ar F a2 ([p0.Sweep.Site.Z,p0.Sweep.Site.Rose,p0.Sweep.Site.Gates,p0.Sweep.Site.Step,p0.Sweep.Site.Width,p0.Sweep.Tilt,p0.Sweep.Time])).bind fun a3 =>
  Ek F p0 a3 F ([]) 0
def C6 (F:Nat) (a7:Int) (a8:Int) (a5:(List Int)) (a2:(List api_Span)) (k1:(Int→Int→(List Int)→(List api_Span)→Option volume_writer)) (a3:Int):Option volume_writer :=
  (Ar F (volume_writer.mk a5) ([a3])).bind fun a4 =>
  (H0 a2 a3 ((a2.length:Nat):Int)).bind fun a0 =>
  bif (decide (((a0.length:Nat):Int)>0)) then ((Bh a0 0).bind fun a1 =>
  (H0 a0 1 ((a0.length:Nat):Int)).bind fun a6 =>
  (Eb F a4 a1).bind fun a9 =>
  k1 a1.Lo a1.Hi a9.b a6) else (k1 a7 a8 a4.b a0)
def Da (F:Nat) (a3:Int) (a4:Int) (a5:(List Int)) (a1:(List api_Span)) (k1:(Int→Int→(List Int)→(List api_Span)→Option volume_writer)) (k3:(Int→Option volume_writer)) (a0:Int):Option volume_writer :=
  (gd (((decide (a0<((a1.length:Nat):Int)))==true&&true)) (Bh a1 a0) default).bind fun a2 =>
  bif (bif (decide (a0<((a1.length:Nat):Int))) then (((a2.Lo:Int)==a3)&&(((a2.Hi:Int)==a4)&&true)) else false) then ((ck (a0+1)).bind fun a6 =>
  k3 a6) else (C6 F a3 a4 a5 a1 k1 a0)
def Bk (F:Nat) (a2:Int) (a3:Int) (a0:(List Int)) (a1:(List api_Span)) (k1:(Int→Int→(List Int)→(List api_Span)→Option volume_writer)):Nat→Int→Option volume_writer
  | 0,_=>none
  | n+1,a4=>Da F a2 a3 a0 a1 k1 (Bk F a2 a3 a0 a1 k1 n) a4
def C5 (F:Nat) (k1:(Int→Int→(List Int)→(List api_Span)→Option volume_writer)) (a2:Int) (a3:Int) (a0:(List Int)) (a1:(List api_Span)):Option volume_writer :=
  bif (decide (((a1.length:Nat):Int)>0)) then (Bk F a2 a3 a0 a1 k1 F 0) else (some (volume_writer.mk a0))
def B8 (F:Nat):Nat→Int→Int→(List Int)→(List api_Span)→Option volume_writer
  | 0,_,_,_,_=>none
  | n+1,a2,a3,a0,a1=>C5 F (B8 F n) a2 a3 a0 a1
def Cr (F:Nat) (p0:volume_writer) (p1:(List api_Span)) (p2:api_Span):Option volume_writer :=
  B8 F F p2.Lo p2.Hi p0.b p1
def Hb (F:Nat) (p0:volume_field) (p1:volume_writer):Option volume_writer :=
  (Ar F p1 ([2])).bind fun a0 =>
  (Ec F a0 p0.key).bind fun a1 =>
  (Ar F a1 ([p0.time])).bind fun a2 =>
  (D8 F a2 ([p0.Field.Grid.X,p0.Field.Grid.Y])).bind fun a3 =>
  (Ar F a3 ([p0.Field.Grid.Size,p0.Field.Grid.Wide,p0.Field.Grid.High])).bind fun a4 =>
  (Cr F a4 p0.Field.Vals (api_Span.mk 0 0)).bind fun a5 =>
  some a5
def J4 (F:Nat) (p0:volume_note) (p1:volume_writer):Option volume_writer :=
  (Ar F p1 ([3,p0.time])).bind fun y9 =>
  (Ec F y9 p0.text).bind fun a0 =>
  some a0
def Mb (F:Nat) (p0:volume_thing) (p1:volume_writer):Option volume_writer:=p0.cs none (fun y=>Hd F y p1) (fun y=>Hb F y p1) (fun y=>J4 F y p1)
def Lm (F:Nat) (p0:volume_thing):Option (List Int) :=
  (Mb F p0 (volume_writer.mk ([]:(List Int)))).bind fun y5 =>
  (Ar F (volume_writer.mk ([]:(List Int))) ([((y5.b.length:Nat):Int)])).bind fun a3 =>
  (apd 1 a3.b y5.b).bind fun a0 =>
  (Ma F a0).bind fun a4 =>
  (apd 1 a0 a4).bind fun a1 =>
  (apd 1 ([0]) a1).bind fun a2 =>
  some a2
def Ra (F:Nat) (p0:volume_Item):Option ((List Int)×Int) :=
  (Qw F p0).bind fun a0 =>
  bif (a0.2 != 0) then (some (([]:(List Int)),a0.2)) else ((Lm F a0.1).bind fun a1 =>
  some (a1,0))
def Ml:Option Bool :=
  some true
def Mk (p0:(List Int)) (p1:(List Int)) (k2:(Int→Option Bool)) (a0:Int):Option Bool :=
  bif (decide (a0<((p0.length:Nat):Int))) then ((Bh p0 a0).bind fun a1 =>
  (Bh p1 a0).bind fun a2 =>
  bif (a1 != a2) then (some false) else ((ck (a0+1)).bind fun a3 =>
  k2 a3)) else (Ml)
def Jl (p0:(List Int)) (p1:(List Int)):Nat→Int→Option Bool
  | 0,_=>none
  | n+1,a0=>Mk p0 p1 (Jl p0 p1 n) a0
def Kv (F:Nat) (p0:(List Int)) (p1:(List Int)):Option Bool :=
  bif (((p0.length:Nat):Int) != ((p1.length:Nat):Int)) then (some false) else (Jl p0 p1 F 0)
def Pp (a0:(List Int)):Option ((List Int)×Int) :=
  bif (decide (((a0.length:Nat):Int)>16777216)) then (some (([]:(List Int)),8)) else (some (a0,0))
def Po (F:Nat) (p0:(List volume_Item)) (k2:(Int→(List Int)→Option ((List Int)×Int))) (a0:Int) (a2:(List Int)):Option ((List Int)×Int) :=
  bif (decide (a0<((p0.length:Nat):Int))) then ((Bh p0 a0).bind fun a4 =>
  (Ra F a4).bind fun a1 =>
  bif (a1.2 != 0) then (some (([]:(List Int)),a1.2)) else ((apd 1 a2 a1.1).bind fun a3 =>
  (ck (a0+1)).bind fun a5 =>
  k2 a5 a3)) else (Pp a2)
def M7 (F:Nat) (p0:(List volume_Item)):Nat→Int→(List Int)→Option ((List Int)×Int)
  | 0,_,_=>none
  | n+1,a1,a0=>Po F p0 (M7 F p0 n) a1 a0
def Sm (F:Nat) (p0:(List volume_Item)):Option ((List Int)×Int) :=
  bif (decide (((p0.length:Nat):Int)>1000)) then (some (([]:(List Int)),9)) else (M7 F p0 F 0 ([82,86,70,49]))
def Qc:Option Bool :=
  some true
def Qd (a1:Int) (k2:(Int→Option Bool)):Option Bool :=
  (ck (a1+1)).bind fun a0 =>
  k2 a0
def Qb (p0:api_Sweep) (p1:api_Sweep) (a3:Int) (k2:(Int→Option Bool)) (k4:(Int→Option Bool)) (a2:Int):Option Bool :=
  (Bh p0.Rays a3).bind fun a4 =>
  bif (decide (a2<((a4.length:Nat):Int))) then ((Bh p0.Rays a3).bind fun a5 =>
  (Bh a5 a2).bind fun a0 =>
  (Bh p1.Rays a3).bind fun a6 =>
  (Bh a6 a2).bind fun a1 =>
  bif (!(((a0.Kind:Int)==a1.Kind)&&((((a0.Power.Lo:Int)==a1.Power.Lo)&&(((a0.Power.Hi:Int)==a1.Power.Hi)&&true))&&(((((a0.Steps.1.Lo:Int)==a1.Steps.1.Lo)&&(((a0.Steps.1.Hi:Int)==a1.Steps.1.Hi)&&true))&&((((a0.Steps.2.Lo:Int)==a1.Steps.2.Lo)&&(((a0.Steps.2.Hi:Int)==a1.Steps.2.Hi)&&true))&&true))&&(((a0.Spread:Int)==a1.Spread)&&((((a0.Ratio.Lo:Int)==a1.Ratio.Lo)&&(((a0.Ratio.Hi:Int)==a1.Ratio.Hi)&&true))&&((((a0.Match.Lo:Int)==a1.Match.Lo)&&(((a0.Match.Hi:Int)==a1.Match.Hi)&&true))&&((((a0.Turn.Lo:Int)==a1.Turn.Lo)&&(((a0.Turn.Hi:Int)==a1.Turn.Hi)&&true))&&true)))))))) then (some false) else ((ck (a2+1)).bind fun a7 =>
  k4 a7)) else (Qd a3 k2)
def Mo (p0:api_Sweep) (p1:api_Sweep) (a0:Int) (k2:(Int→Option Bool)):Nat→Int→Option Bool
  | 0,_=>none
  | n+1,a1=>Qb p0 p1 a0 k2 (Mo p0 p1 a0 k2 n) a1
def Qa (F:Nat) (p0:api_Sweep) (p1:api_Sweep) (k2:(Int→Option Bool)) (a0:Int):Option Bool :=
  bif (decide (a0<((p0.Rays.length:Nat):Int))) then ((Bh p0.Rays a0).bind fun a1 =>
  (Bh p1.Rays a0).bind fun a2 =>
  bif (((a1.length:Nat):Int) != ((a2.length:Nat):Int)) then (some false) else (Mo p0 p1 a0 k2 F 0)) else (Qc)
def Mn (F:Nat) (p0:api_Sweep) (p1:api_Sweep):Nat→Int→Option Bool
  | 0,_=>none
  | n+1,a0=>Qa F p0 p1 (Mn F p0 p1 n) a0
def T9 (F:Nat) (p0:api_Sweep) (p1:api_Sweep):Option Bool :=
  bif (bif (bif (bif (!((p0.Site.Name==p1.Site.Name)&&(((p0.Site.X:Int)==p1.Site.X)&&(((p0.Site.Y:Int)==p1.Site.Y)&&(((p0.Site.Z:Int)==p1.Site.Z)&&(((p0.Site.Rose:Int)==p1.Site.Rose)&&(((p0.Site.Gates:Int)==p1.Site.Gates)&&(((p0.Site.Step:Int)==p1.Site.Step)&&(((p0.Site.Width:Int)==p1.Site.Width)&&true))))))))) then true else (p0.Tilt != p1.Tilt)) then true else (p0.Time != p1.Time)) then true else (((p0.Rays.length:Nat):Int) != ((p1.Rays.length:Nat):Int))) then (some false) else (Mn F p0 p1 F 0)
def Q9:Option Bool :=
  some true
def Q8 (p0:api_Field) (p1:api_Field) (k2:(Int→Option Bool)) (a0:Int):Option Bool :=
  bif (decide (a0<((p0.Vals.length:Nat):Int))) then ((Bh p0.Vals a0).bind fun a1 =>
  (Bh p1.Vals a0).bind fun a2 =>
  bif (!(((a1.Lo:Int)==a2.Lo)&&(((a1.Hi:Int)==a2.Hi)&&true))) then (some false) else ((ck (a0+1)).bind fun a3 =>
  k2 a3)) else (Q9)
def Mm (p0:api_Field) (p1:api_Field):Nat→Int→Option Bool
  | 0,_=>none
  | n+1,a0=>Q8 p0 p1 (Mm p0 p1 n) a0
def T8 (F:Nat) (p0:api_Field) (p1:api_Field):Option Bool :=
  bif (bif (!(((p0.Grid.X:Int)==p1.Grid.X)&&(((p0.Grid.Y:Int)==p1.Grid.Y)&&(((p0.Grid.Size:Int)==p1.Grid.Size)&&(((p0.Grid.Wide:Int)==p1.Grid.Wide)&&(((p0.Grid.High:Int)==p1.Grid.High)&&true)))))) then true else (((p0.Vals.length:Nat):Int) != ((p1.Vals.length:Nat):Int))) then (some false) else (Mm p0 p1 F 0)
def S7 (F:Nat) (p0:volume_Item) (p1:volume_Item):Option Bool :=
  (gd (((bif (bif (bif (p0.Kind==p1.Kind) then (sEq p0.Name p1.Name) else false) then (p0.Time==p1.Time) else false) then (sEq p0.Text p1.Text) else false)==true&&true)) (T9 F p0.Sweep p1.Sweep) default).bind fun a0 =>
  (gd (((bif (bif (bif (bif (p0.Kind==p1.Kind) then (sEq p0.Name p1.Name) else false) then (p0.Time==p1.Time) else false) then (sEq p0.Text p1.Text) else false) then a0 else false)==true&&true)) (T8 F p0.Field p1.Field) default).bind fun a1 =>
  some (bif (bif (bif (bif (bif (p0.Kind==p1.Kind) then (sEq p0.Name p1.Name) else false) then (p0.Time==p1.Time) else false) then (sEq p0.Text p1.Text) else false) then a0 else false) then a1 else false)
def Kw (F:Nat):Option Bool :=
  (Ra F (volume_Item.mk 3 ByteArray.empty 5 (api_Sweep.mk (api_Site.mk ByteArray.empty 0 0 0 0 0 0 0) 0 0 ([]:(List (List api_Echo)))) (api_Field.mk (api_Grid.mk 0 0 0 0 0) ([]:(List api_Span))) (⟨#[97]⟩:ByteArray))).bind fun y3 =>
  (Sm F ([(volume_Item.mk 3 ByteArray.empty 5 (api_Sweep.mk (api_Site.mk ByteArray.empty 0 0 0 0 0 0 0) 0 0 ([]:(List (List api_Echo)))) (api_Field.mk (api_Grid.mk 0 0 0 0 0) ([]:(List api_Span))) (⟨#[97]⟩:ByteArray))])).bind fun y9 =>
  (C9 F y9.1).bind fun a4 =>
  bif (bif (bif (y3.2 != 0) then true else (y9.2 != 0)) then true else (a4.2.2 != 0)) then (some false) else ((Kv F y3.1 ([0,5,4,6,2,97,183,135,165,144,1])).bind fun aD =>
  bif (!aD) then (some false) else ((apd 1 ([82,86,70,49]) y3.1).bind fun a7 =>
  (Kv F y9.1 a7).bind fun aE =>
  bif (bif (bif (!aE) then true else (a4.2.1 != ((y9.1.length:Nat):Int))) then true else (((a4.1.length:Nat):Int) != 1)) then (some false) else ((Bh a4.1 0).bind fun aA =>
  (S7 F aA (volume_Item.mk 3 ByteArray.empty 5 (api_Sweep.mk (api_Site.mk ByteArray.empty 0 0 0 0 0 0 0) 0 0 ([]:(List (List api_Echo)))) (api_Field.mk (api_Grid.mk 0 0 0 0 0) ([]:(List api_Span))) (⟨#[97]⟩:ByteArray))).bind fun aF =>
  bif (!aF) then (some false) else ((Bh y9.1 8).bind fun aB =>
  (Bh y9.1 8).bind fun aG =>
  (A0j y9.1 8 (IntKind.u8.wrap (aB+1))).bind fun a8 =>
  (C9 F a8).bind fun a3 =>
  (C9 F ([82,86,70,49])).bind fun a1 =>
  (C9 F ([82,86,70,49,0,5,4])).bind fun a2 =>
  (C9 F ([82,86,70,50])).bind fun a5 =>
  (apd 1 ([120,0,121]) y3.1).bind fun a6 =>
  (Qv F a6).bind fun a0 =>
  bif (bif (bif (bif (bif (bif (bif (bif (bif (bif (a3.2.2==15) then (a1.2.2==0) else false) then (a2.2.2==16) else false) then (a5.2.2==7) else false) then (a0.2.2==0) else false) then (a3.2.1==4) else false) then (((a1.1.length:Nat):Int)==0) else false) then (a1.2.1==4) else false) then (a2.2.1==4) else false) then (((a0.1.length:Nat):Int)==1) else false) then ((Bh a0.1 0).bind fun a9 =>
  (S7 F a9 (volume_Item.mk 3 ByteArray.empty 5 (api_Sweep.mk (api_Site.mk ByteArray.empty 0 0 0 0 0 0 0) 0 0 ([]:(List (List api_Echo)))) (api_Field.mk (api_Grid.mk 0 0 0 0 0) ([]:(List api_Span))) (⟨#[97]⟩:ByteArray))).bind fun aC =>
  some (bif (bif (bif (bif (bif (bif (bif (bif (bif (bif (bif (a3.2.2==15) then (a1.2.2==0) else false) then (a2.2.2==16) else false) then (a5.2.2==7) else false) then (a0.2.2==0) else false) then (a3.2.1==4) else false) then (((a1.1.length:Nat):Int)==0) else false) then (a1.2.1==4) else false) then (a2.2.1==4) else false) then (((a0.1.length:Nat):Int)==1) else false) then aC else false) then (a0.2.1==1) else false)) else (some (bif (bif (bif (bif (bif (bif (bif (bif (bif (bif (bif (a3.2.2==15) then (a1.2.2==0) else false) then (a2.2.2==16) else false) then (a5.2.2==7) else false) then (a0.2.2==0) else false) then (a3.2.1==4) else false) then (((a1.1.length:Nat):Int)==0) else false) then (a1.2.1==4) else false) then (a2.2.1==4) else false) then (((a0.1.length:Nat):Int)==1) else false) then false else false) then (a0.2.1==1) else false))))))
def Sg (a0:Int):Option Int :=
  some a0
def Pt (p0:(List Int)) (k2:(Int→Option Int)) (a0:Int):Option Int :=
  (gd (((decide (a0<((p0.length:Nat):Int)))==true&&true)) (Bh p0 a0) default).bind fun a1 =>
  bif (bif (decide (a0<((p0.length:Nat):Int))) then (a1 != 0) else false) then ((ck (a0+1)).bind fun a2 =>
  k2 a2) else (Sg a0)
def Lj (p0:(List Int)):Nat→Int→Option Int
  | 0,_=>none
  | n+1,a0=>Pt p0 (Lj p0 n) a0
def Uc (F:Nat) (p0:(List Int)) (p1:Int):Option Int :=
  Lj p0 F p1
def Ew:Option (Int×ref12_reader) :=
  some (0,(ref12_reader.mk ([]:(List Int)) true))
def G7 (p0:ref12_reader) (k2:(Int→Int→Int→Option (Int×ref12_reader))) (a3:Int) (a2:Int) (a1:Int):Option (Int×ref12_reader) :=
  bif (bif (decide (a1<((p0.b.length:Nat):Int))) then (decide (a1<8)) else false) then ((Bh p0.b a1).bind fun a5 =>
  (ck a5).bind fun a0 =>
  bif (bif (bif (decide (a0≥1)) then (decide (a0≤127)) else false) then (bif (a1==0) then true else (decide (a0>1))) else false) then ((ck (a1+1)).bind fun a6 =>
  (H0 p0.b a6 ((p0.b.length:Nat):Int)).bind fun a4 =>
  (ck (a0-1)).bind fun a7 =>
  (ck (a7*a2)).bind fun a8 =>
  (ck (a3+a8)).bind fun a9 =>
  some (a9,(ref12_reader.mk a4 p0.bad))) else (bif (bif (decide (a0<128)) then true else (decide (a0>254))) then (Ew) else ((ck (a0-128)).bind fun aA =>
  (ck (aA*a2)).bind fun aB =>
  (ck (a3+aB)).bind fun aC =>
  (ck (a2*127)).bind fun aD =>
  (ck (a1+1)).bind fun aE =>
  k2 aC aD aE))) else (Ew)
def Cv (p0:ref12_reader):Nat→Int→Int→Int→Option (Int×ref12_reader)
  | 0,_,_,_=>none
  | n+1,a0,a1,a2=>G7 p0 (Cv p0 n) a0 a1 a2
def Aa (F:Nat) (p0:ref12_reader):Option (Int×ref12_reader) :=
  Cv p0 F 0 1 0
def Re:Option Bool :=
  some true
def P2 (p0:(List Int)) (p1:(List Int)) (k2:(Int→Option Bool)) (a0:Int):Option Bool :=
  bif (decide (a0<((p0.length:Nat):Int))) then ((Bh p0 a0).bind fun a1 =>
  (Bh p1 a0).bind fun a2 =>
  bif (a1 != a2) then (some false) else ((ck (a0+1)).bind fun a3 =>
  k2 a3)) else (Re)
def Ki (p0:(List Int)) (p1:(List Int)):Nat→Int→Option Bool
  | 0,_=>none
  | n+1,a0=>P2 p0 p1 (Ki p0 p1 n) a0
def Qn (F:Nat) (p0:(List Int)) (p1:(List Int)):Option Bool :=
  bif (((p0.length:Nat):Int) != ((p1.length:Nat):Int)) then (some false) else (Ki p0 p1 F 0)
def Pw (a2:Int) (a0:(List Int)):Option (List Int) :=
  (ck (1+a2)).bind fun a3 =>
  (apd 1 a0 ([IntKind.u8.wrap a3])).bind fun a1 =>
  some a1
def Mv (k3:(Int→(List Int)→Int→Option (List Int))) (a0:Int) (a1:(List Int)) (a2:Int):Option (List Int) :=
  bif (decide (a2<4)) then ((Qq a0 127).bind fun a4 =>
  (ck (128+a4)).bind fun a5 =>
  (apd 1 a1 ([IntKind.u8.wrap a5])).bind fun a3 =>
  (Pn a0 127).bind fun a6 =>
  (ck (a2+1)).bind fun a7 =>
  k3 a6 a3 a7) else (Pw a0 a1)
def Gu:Nat→Int→(List Int)→Int→Option (List Int)
  | 0,_,_,_=>none
  | n+1,a1,a0,a2=>Mv (Gu n) a1 a0 a2
def Pv (F:Nat) (a0:Int):Option (List Int) :=
  Gu F a0 ([]) 0
def Pu (F:Nat) (p0:(List Int)) (k4:(Int→Int→Option (List Int))) (a1:Int) (a0:Int):Option (List Int) :=
  bif (decide (a0<((p0.length:Nat):Int))) then ((ck (31*a1)).bind fun a3 =>
  (Bh p0 a0).bind fun a2 =>
  (ck a2).bind fun a4 =>
  (ck (a3+a4)).bind fun a5 =>
  (Qq a5 2147483647).bind fun a6 =>
  (ck (a0+1)).bind fun a7 =>
  k4 a6 a7) else (Pv F a1)
def Lk (F:Nat) (p0:(List Int)):Nat→Int→Int→Option (List Int)
  | 0,_,_=>none
  | n+1,a0,a1=>Pu F p0 (Lk F p0 n) a0 a1
def No (F:Nat) (p0:(List Int)):Option (List Int) :=
  Lk F p0 F 1 0
def Cp (p0:api_Sweep):Bool :=
  bif (bif (bif ((p0.Site.Name==ByteArray.empty)&&(((p0.Site.X:Int)==0)&&(((p0.Site.Y:Int)==0)&&(((p0.Site.Z:Int)==0)&&(((p0.Site.Rose:Int)==0)&&(((p0.Site.Gates:Int)==0)&&(((p0.Site.Step:Int)==0)&&(((p0.Site.Width:Int)==0)&&true)))))))) then (p0.Tilt==0) else false) then (p0.Time==0) else false) then (((p0.Rays.length:Nat):Int)==0) else false
def Dk (p0:api_Field):Bool :=
  bif (((p0.Grid.X:Int)==0)&&(((p0.Grid.Y:Int)==0)&&(((p0.Grid.Size:Int)==0)&&(((p0.Grid.Wide:Int)==0)&&(((p0.Grid.High:Int)==0)&&true))))) then (((p0.Vals.length:Nat):Int)==0) else false
def Ad (p0:Int) (p1:Int) (p2:Int):Bool :=
  bif (decide (p0≥p1)) then (decide (p0≤p2)) else false
def Nw:Option Bool :=
  some true
def Nv (p0:ByteArray) (k2:(Int→Option Bool)) (a1:Int):Option Bool :=
  bif (decide (a1<((p0.size:Nat):Int))) then ((Su p0 a1).bind fun a0 =>
  bif (bif (bif (bif (decide (a0<97)) then true else (decide (a0>122))) then (bif (decide (a0<48)) then true else (decide (a0>57))) else false) then (a0 != 95) else false) then (some false) else ((ck (a1+1)).bind fun a2 =>
  k2 a2)) else (Nw)
def Kb (p0:ByteArray):Nat→Int→Option Bool
  | 0,_=>none
  | n+1,a0=>Nv p0 (Kb p0 n) a0
def Kz (F:Nat) (p0:ByteArray):Option Bool :=
  (gd (((bif (decide (((p0.size:Nat):Int)<1)) then true else (decide (((p0.size:Nat):Int)>12)))==false&&true)) (Su p0 (0:Int)) default).bind fun u1 =>
  (gd (((bif (bif (decide (((p0.size:Nat):Int)<1)) then true else (decide (((p0.size:Nat):Int)>12))) then true else (decide (u1<97)))==false&&true)) (Su p0 (0:Int)) default).bind fun u2 =>
  bif (bif (bif (bif (decide (((p0.size:Nat):Int)<1)) then true else (decide (((p0.size:Nat):Int)>12))) then true else (decide (u1<97))) then true else (decide (u2>122))) then (some false) else (Kb p0 F 0)
def Fj (F:Nat) (p0:api_Site):Option Int :=
  (Kz F p0.Name).bind fun y2 =>
  bif (!y2) then (some 10) else (bif (bif (bif (bif (bif (bif (bif (!(Ad p0.X (-1048576) 1048576)) then true else (!(Ad p0.Y (-1048576) 1048576))) then true else (!(Ad p0.Z 0 20000))) then true else (!(Ad p0.Rose 1 90))) then true else (!(Ad p0.Gates 1 200))) then true else (!(Ad p0.Step 50 2000))) then true else (!(Ad p0.Width 0 8))) then (some 3) else (some 0))
def Cz (p0:api_Span) (p1:Int) (p2:Int):Bool :=
  bif (bif (decide (p0.Lo≤p0.Hi)) then (decide (p0.Lo≥p1)) else false) then (decide (p0.Hi≤p2)) else false
def L0 (F:Nat) (p0:api_Span):Option Bool :=
  (gd (((Ad p0.Lo (-32768) 32767)==true&&true)) (ck (p0.Lo+65536)) 0).bind fun x2 =>
  (gd (((Ad p0.Lo (-32768) 32767)==true&&true)) (ck (x2-1)) 0).bind fun x3 =>
  some (bif (Ad p0.Lo (-32768) 32767) then (Ad p0.Hi p0.Lo x3) else false)
def K4 (F:Nat) (p0:api_Echo):Option Int :=
  bif (bif (bif (p0.Kind != 1) then (p0.Kind != 2) else false) then (p0.Kind != 3) else false) then (some 2) else (bif (!(Cz p0.Power 0 1073741824)) then (some 3) else (bif (p0.Kind==1) then (bif (bif (bif (bif (bif (bif (bif (p0.Power.Lo != 0) then true else (!(((p0.Steps.1.Lo:Int)==0)&&(((p0.Steps.1.Hi:Int)==0)&&true)))) then true else (!(((p0.Steps.2.Lo:Int)==0)&&(((p0.Steps.2.Hi:Int)==0)&&true)))) then true else (p0.Spread != 0)) then true else (!(((p0.Ratio.Lo:Int)==0)&&(((p0.Ratio.Hi:Int)==0)&&true)))) then true else (!(((p0.Match.Lo:Int)==0)&&(((p0.Match.Hi:Int)==0)&&true)))) then true else (!(((p0.Turn.Lo:Int)==0)&&(((p0.Turn.Hi:Int)==0)&&true)))) then (some 3) else (some 0)) else (bif (bif (bif (bif (decide (p0.Power.Lo<1)) then true else (!(Cz p0.Ratio 0 1000000))) then true else (!(Cz p0.Match 0 1000))) then true else (!(Ad p0.Spread 0 65535))) then (some 3) else (bif (p0.Kind==2) then (bif (bif (bif (!(((p0.Steps.1.Lo:Int)==0)&&(((p0.Steps.1.Hi:Int)==0)&&true))) then true else (!(((p0.Steps.2.Lo:Int)==0)&&(((p0.Steps.2.Hi:Int)==0)&&true)))) then true else (!(((p0.Turn.Lo:Int)==0)&&(((p0.Turn.Hi:Int)==0)&&true)))) then (some 3) else (some 0)) else ((L0 F (api_Span.mk p0.Steps.1.Lo p0.Steps.1.Hi)).bind fun y4 =>
  (gd (((!y4)==false&&true)) (L0 F (api_Span.mk p0.Steps.2.Lo p0.Steps.2.Hi)) default).bind fun y5 =>
  (gd (((bif (!y4) then true else (!y5))==false&&true)) (L0 F p0.Turn) default).bind fun y6 =>
  bif (bif (bif (!y4) then true else (!y5)) then true else (!y6)) then (some 3) else (some 0))))))
def Lp:Option Int :=
  some 0
def Jk (a0:Int) (k3:(Int→Option Int)):Option Int :=
  (ck (a0+1)).bind fun a1 =>
  k3 a1
def Jh (F:Nat) (p0:api_Sweep) (a1:Int) (k3:(Int→Option Int)) (k5:(Int→Option Int)) (a2:Int):Option Int :=
  (Bh p0.Rays a1).bind fun a4 =>
  bif (decide (a2<((a4.length:Nat):Int))) then ((Bh p0.Rays a1).bind fun a5 =>
  (Bh a5 a2).bind fun a0 =>
  (K4 F (api_Echo.mk a0.Kind a0.Power ((api_Span.mk a0.Steps.1.Lo a0.Steps.1.Hi),(api_Span.mk a0.Steps.2.Lo a0.Steps.2.Hi)) a0.Spread a0.Ratio a0.Match a0.Turn)).bind fun a3 =>
  bif (a3 != 0) then (some a3) else ((ck (a2+1)).bind fun a6 =>
  k5 a6)) else (Jk a1 k3)
def Fh (F:Nat) (p0:api_Sweep) (a0:Int) (k3:(Int→Option Int)):Nat→Int→Option Int
  | 0,_=>none
  | n+1,a1=>Jh F p0 a0 k3 (Fh F p0 a0 k3 n) a1
def Jg (F:Nat) (p0:api_Sweep) (k3:(Int→Option Int)) (a0:Int):Option Int :=
  bif (decide (a0<((p0.Rays.length:Nat):Int))) then (Fh F p0 a0 k3 F 0) else (Lp)
def Fg (F:Nat) (p0:api_Sweep):Nat→Int→Option Int
  | 0,_=>none
  | n+1,a0=>Jg F p0 (Fg F p0 n) a0
def Jj (F:Nat) (p0:api_Sweep):Option Int :=
  Fg F p0 F 0
def Ji (F:Nat) (p0:api_Sweep) (k6:(Int→Option Int)) (a0:Int):Option Int :=
  bif (decide (a0<((p0.Rays.length:Nat):Int))) then ((Bh p0.Rays a0).bind fun a1 =>
  bif (((a1.length:Nat):Int) != p0.Site.Gates) then (some 11) else ((ck (a0+1)).bind fun a2 =>
  k6 a2)) else (Jj F p0)
def Fi (F:Nat) (p0:api_Sweep):Nat→Int→Option Int
  | 0,_=>none
  | n+1,a0=>Ji F p0 (Fi F p0 n) a0
def F1 (F:Nat) (p0:api_Sweep):Option Int :=
  (Fj F p0.Site).bind fun y6 =>
  bif (y6 != 0) then (some y6) else (bif (bif (!(Ad p0.Tilt 0 256)) then true else (!(Ad p0.Time 0 4294967296))) then (some 3) else ((ck (4*p0.Site.Rose)).bind fun x7 =>
  bif (((p0.Rays.length:Nat):Int) != x7) then (some 11) else (Fi F p0 F 0)))
def Cb (p0:api_Grid):Int :=
  bif (bif (bif (bif (bif (!(Ad p0.X (-1048576) 1048576)) then true else (!(Ad p0.Y (-1048576) 1048576))) then true else (!(Ad p0.Size 1 10000))) then true else (!(Ad p0.Wide 1 64))) then true else (!(Ad p0.High 1 64))) then (3) else (0)
def Rb:Option Int :=
  some 0
def Nx (p0:api_Field) (p1:Int) (k2:(Int→Option Int)) (a0:Int):Option Int :=
  bif (decide (a0<((p0.Vals.length:Nat):Int))) then ((Bh p0.Vals a0).bind fun a1 =>
  bif (!(Cz a1 0 p1)) then (some 3) else ((ck (a0+1)).bind fun a2 =>
  k2 a2)) else (Rb)
def Kc (p0:api_Field) (p1:Int):Nat→Int→Option Int
  | 0,_=>none
  | n+1,a0=>Nx p0 p1 (Kc p0 p1 n) a0
def Sf (F:Nat) (p0:api_Field) (p1:Int):Option Int :=
  bif ((Cb p0.Grid) != 0) then (some (Cb p0.Grid)) else ((ck (p0.Grid.Wide*p0.Grid.High)).bind fun x5 =>
  bif (((p0.Vals.length:Nat):Int) != x5) then (some 11) else (Kc p0 p1 F 0))
def Fp (F:Nat) (p0:api_Field):Option Int :=
  (Sf F p0 1073741824).bind fun y5 =>
  some y5
def Qk:Option Int :=
  some 0
def Mr (p0:ref12_Item) (k2:(Int→Option Int)) (a0:Int):Option Int :=
  bif (decide (a0<((p0.Text.size:Nat):Int))) then ((Su p0.Text a0).bind fun a1 =>
  (gd (((decide (a1<32))==false&&true)) (Su p0.Text a0) default).bind fun a2 =>
  bif (bif (decide (a1<32)) then true else (decide (a2>126))) then (some 7) else ((ck (a0+1)).bind fun a3 =>
  k2 a3)) else (Qk)
def G3 (p0:ref12_Item):Nat→Int→Option Int
  | 0,_=>none
  | n+1,a0=>Mr p0 (G3 p0 n) a0
def Ef (F:Nat) (p0:ref12_Item):Option Int :=
  bif (bif (bif (p0.Kind != 1) then (p0.Kind != 2) else false) then (p0.Kind != 3) else false) then (some 2) else (bif (bif (bif (bif (bif (p0.Kind != 1) then (!(Cp p0.Sweep)) else false) then true else (bif (p0.Kind != 2) then (bif (!(Dk p0.Field)) then true else (!(sEq p0.Name (⟨#[]⟩:ByteArray)))) else false)) then true else (bif (p0.Kind != 3) then (!(sEq p0.Text (⟨#[]⟩:ByteArray))) else false)) then true else (bif (p0.Kind==1) then (p0.Time != 0) else false)) then (some 2) else (bif (p0.Kind==1) then ((F1 F p0.Sweep).bind fun y9 =>
  some y9) else ((gd (((p0.Kind==2)==true&&true)) (Kz F p0.Name) default).bind fun a0 =>
  bif (bif (p0.Kind==2) then (!a0) else false) then (some 10) else (bif (!(Ad p0.Time 0 4294967296)) then (some 3) else (bif (p0.Kind==2) then ((Fp F p0.Field).bind fun a1 =>
  some a1) else (bif (decide (((p0.Text.size:Nat):Int)>200)) then (some 8) else (G3 p0 F 0)))))))
def Dq (F:Nat) (p0:ref12_reader):Option (ByteArray×ref12_reader) :=
  (Aa F p0).bind fun y4 =>
  bif (decide (y4.1>((y4.2.b.length:Nat):Int))) then (some ((⟨#[]⟩:ByteArray),(ref12_reader.mk y4.2.b true))) else ((H0 y4.2.b (0:Int) y4.1).bind fun a0 =>
  (H0 y4.2.b y4.1 ((y4.2.b.length:Nat):Int)).bind fun a1 =>
  some ((bst a0),(ref12_reader.mk a1 y4.2.bad)))
def Bb (F:Nat) (p0:ref12_reader):Option (Int×ref12_reader) :=
  (Aa F p0).bind fun y4 =>
  (Qq y4.1 2).bind fun a0 =>
  bif (a0==1) then ((ck (y4.1+1)).bind fun a1 =>
  (Pn (IntKind.i64.wrap (0-a1)) 2).bind fun a2 =>
  some (a2,(ref12_reader.mk y4.2.b y4.2.bad))) else ((Pn y4.1 2).bind fun a3 =>
  some (a3,(ref12_reader.mk y4.2.b y4.2.bad)))
def F7 (F:Nat) (p0:ref12_reader) (p1:Int):Option (Int×ref12_reader) :=
  (Aa F p0).bind fun y4 =>
  bif (decide (y4.1>p1)) then (some (0,(ref12_reader.mk y4.2.b true))) else (some (y4.1,(ref12_reader.mk y4.2.b y4.2.bad)))
def Co (F:Nat) (p0:ref12_reader):Option (api_Span×ref12_reader) :=
  (Bb F p0).bind fun y5 =>
  (Aa F (ref12_reader.mk y5.2.b y5.2.bad)).bind fun a0 =>
  (ck (y5.1+a0.1)).bind fun a1 =>
  some ((api_Span.mk y5.1 a1),(ref12_reader.mk a0.2.b a0.2.bad))
def Jw (F:Nat) (p0:ref12_reader):Option (api_Echo×ref12_reader) :=
  (Aa F p0).bind fun y5 =>
  bif (y5.1==1) then ((Aa F (ref12_reader.mk y5.2.b y5.2.bad)).bind fun a7 =>
  some ((api_Echo.mk y5.1 (api_Span.mk 0 a7.1) ((api_Span.mk 0 0),(api_Span.mk 0 0)) 0 (api_Span.mk 0 0) (api_Span.mk 0 0) (api_Span.mk 0 0)),(ref12_reader.mk a7.2.b a7.2.bad))) else ((Co F (ref12_reader.mk y5.2.b y5.2.bad)).bind fun a0 =>
  (Co F (ref12_reader.mk a0.2.b a0.2.bad)).bind fun a1 =>
  (Co F (ref12_reader.mk a1.2.b a1.2.bad)).bind fun a2 =>
  (Aa F (ref12_reader.mk a2.2.b a2.2.bad)).bind fun a3 =>
  bif (y5.1==3) then ((Co F (ref12_reader.mk a3.2.b a3.2.bad)).bind fun a4 =>
  (Co F (ref12_reader.mk a4.2.b a4.2.bad)).bind fun a5 =>
  (Co F (ref12_reader.mk a5.2.b a5.2.bad)).bind fun a6 =>
  some ((api_Echo.mk y5.1 (api_Span.mk a0.1.Lo a0.1.Hi) ((api_Span.mk a4.1.Lo a4.1.Hi),(api_Span.mk a5.1.Lo a5.1.Hi)) a3.1 (api_Span.mk a1.1.Lo a1.1.Hi) (api_Span.mk a2.1.Lo a2.1.Hi) (api_Span.mk a6.1.Lo a6.1.Hi)),(ref12_reader.mk a6.2.b a6.2.bad))) else (some ((api_Echo.mk y5.1 (api_Span.mk a0.1.Lo a0.1.Hi) ((api_Span.mk 0 0),(api_Span.mk 0 0)) a3.1 (api_Span.mk a1.1.Lo a1.1.Hi) (api_Span.mk a2.1.Lo a2.1.Hi) (api_Span.mk 0 0)),(ref12_reader.mk a3.2.b a3.2.bad))))
def Bt (a3:Int) (a4:Int) (a5:Int) (a6:Int) (a7:Int) (a8:Int) (a9:Int) (aA:Int) (aB:Int) (aC:Int) (aD:Int) (aE:Int) (aF:Int) (aG:Int) (a1:(List Int)) (a0:Bool) (a2:(List api_Echo)):Option ((List api_Echo)×ref12_reader) :=
  some (a2,(ref12_reader.mk a1 a0))
def Ev (F:Nat) (p1:Int) (a3:Int) (a4:Int) (a5:Int) (a6:Int) (a7:Int) (a8:Int) (a9:Int) (aA:Int) (aB:Int) (aC:Int) (aD:Int) (aE:Int) (aF:Int) (aG:Int) (k2:(Int→Int→Int→Int→Int→Int→Int→Int→Int→Int→Int→Int→Int→Int→(List Int)→Bool→(List api_Echo)→Option ((List api_Echo)×ref12_reader))) (a1:(Int×ref12_reader)) (a2:(List api_Echo)):Option ((List api_Echo)×ref12_reader) :=
  bif (decide (((a2.length:Nat):Int)<p1)) then ((Jw F (ref12_reader.mk a1.2.b a1.2.bad)).bind fun a0 =>
  (apd 112 a2 ([(api_Echo.mk a0.1.Kind (api_Span.mk a0.1.Power.Lo a0.1.Power.Hi) ((api_Span.mk a0.1.Steps.1.Lo a0.1.Steps.1.Hi),(api_Span.mk a0.1.Steps.2.Lo a0.1.Steps.2.Hi)) a0.1.Spread (api_Span.mk a0.1.Ratio.Lo a0.1.Ratio.Hi) (api_Span.mk a0.1.Match.Lo a0.1.Match.Hi) (api_Span.mk a0.1.Turn.Lo a0.1.Turn.Hi))])).bind fun aH =>
  k2 a0.1.Kind a0.1.Power.Lo a0.1.Match.Lo a0.1.Match.Hi a0.1.Turn.Lo a0.1.Turn.Hi a0.1.Power.Hi a0.1.Steps.1.Lo a0.1.Steps.1.Hi a0.1.Steps.2.Lo a0.1.Steps.2.Hi a0.1.Spread a0.1.Ratio.Lo a0.1.Ratio.Hi a0.2.b (bif a0.2.bad then true else (((a0.1.Kind:Int)==a3)&&((((a0.1.Power.Lo:Int)==a4)&&(((a0.1.Power.Hi:Int)==a9)&&true))&&(((((a0.1.Steps.1.Lo:Int)==aA)&&(((a0.1.Steps.1.Hi:Int)==aB)&&true))&&((((a0.1.Steps.2.Lo:Int)==aC)&&(((a0.1.Steps.2.Hi:Int)==aD)&&true))&&true))&&(((a0.1.Spread:Int)==aE)&&((((a0.1.Ratio.Lo:Int)==aF)&&(((a0.1.Ratio.Hi:Int)==aG)&&true))&&((((a0.1.Match.Lo:Int)==a5)&&(((a0.1.Match.Hi:Int)==a6)&&true))&&((((a0.1.Turn.Lo:Int)==a7)&&(((a0.1.Turn.Hi:Int)==a8)&&true))&&true)))))))) aH) else (k2 a3 a4 a5 a6 a7 a8 a9 aA aB aC aD aE aF aG a1.2.b a1.2.bad a2)
def G6 (F:Nat) (p1:Int) (a1:Int) (a2:Int) (a3:Int) (a4:Int) (a5:Int) (a6:Int) (a7:Int) (a8:Int) (a9:Int) (aA:Int) (aB:Int) (aC:Int) (aD:Int) (aE:Int) (k2:(Int→Int→Int→Int→Int→Int→Int→Int→Int→Int→Int→Int→Int→Int→(List Int)→Bool→(List api_Echo)→Option ((List api_Echo)×ref12_reader))) (aG:(Int×ref12_reader)) (k4:((List api_Echo)→Int→Option ((List api_Echo)×ref12_reader))) (a0:(List api_Echo)) (aF:Int):Option ((List api_Echo)×ref12_reader) :=
  bif (decide (aF<aG.1)) then ((apd 112 a0 ([(api_Echo.mk a1 (api_Span.mk a2 a7) ((api_Span.mk a8 a9),(api_Span.mk aA aB)) aC (api_Span.mk aD aE) (api_Span.mk a3 a4) (api_Span.mk a5 a6))])).bind fun aH =>
  (ck (aF+1)).bind fun aI =>
  k4 aH aI) else (Ev F p1 a1 a2 a3 a4 a5 a6 a7 a8 a9 aA aB aC aD aE k2 aG a0)
def C7 (F:Nat) (p1:Int) (a0:Int) (a1:Int) (a2:Int) (a3:Int) (a4:Int) (a5:Int) (a6:Int) (a7:Int) (a8:Int) (a9:Int) (aA:Int) (aB:Int) (aC:Int) (aD:Int) (k2:(Int→Int→Int→Int→Int→Int→Int→Int→Int→Int→Int→Int→Int→Int→(List Int)→Bool→(List api_Echo)→Option ((List api_Echo)×ref12_reader))) (aE:(Int×ref12_reader)):Nat→(List api_Echo)→Int→Option ((List api_Echo)×ref12_reader)
  | 0,_,_=>none
  | n+1,aF,aG=>G6 F p1 a0 a1 a2 a3 a4 a5 a6 a7 a8 a9 aA aB aC aD k2 aE (C7 F p1 a0 a1 a2 a3 a4 a5 a6 a7 a8 a9 aA aB aC aD k2 aE n) aF aG
def Dy (F:Nat) (p1:Int) (k2:(Int→Int→Int→Int→Int→Int→Int→Int→Int→Int→Int→Int→Int→Int→(List Int)→Bool→(List api_Echo)→Option ((List api_Echo)×ref12_reader))) (a3:Int) (a4:Int) (a5:Int) (a6:Int) (a7:Int) (a8:Int) (a9:Int) (aA:Int) (aB:Int) (aC:Int) (aD:Int) (aE:Int) (aF:Int) (aG:Int) (a2:(List Int)) (a1:Bool) (a0:(List api_Echo)):Option ((List api_Echo)×ref12_reader) :=
  bif (decide (((a0.length:Nat):Int)<p1)) then (bif (!a1) then ((ck (p1-((a0.length:Nat):Int))).bind fun aH =>
  (F7 F (ref12_reader.mk a2 a1) aH).bind fun aI =>
  C7 F p1 a3 a4 a5 a6 a7 a8 a9 aA aB aC aD aE aF aG k2 aI F a0 0) else (Bt a3 a4 a5 a6 a7 a8 a9 aA aB aC aD aE aF aG a2 a1 a0)) else (Bt a3 a4 a5 a6 a7 a8 a9 aA aB aC aD aE aF aG a2 a1 a0)
def Be (F:Nat) (p1:Int):Nat→Int→Int→Int→Int→Int→Int→Int→Int→Int→Int→Int→Int→Int→Int→(List Int)→Bool→(List api_Echo)→Option ((List api_Echo)×ref12_reader)
  | 0,_,_,_,_,_,_,_,_,_,_,_,_,_,_,_,_,_=>none
  | n+1,a3,a4,a5,a6,a7,a8,a9,aA,aB,aC,aD,aE,aF,aG,a1,a0,a2=>Dy F p1 (Be F p1 n) a3 a4 a5 a6 a7 a8 a9 aA aB aC aD aE aF aG a1 a0 a2
def Eu (F:Nat) (p0:ref12_reader) (p1:Int):Option ((List api_Echo)×ref12_reader) :=
  Be F p1 F 1 0 0 0 0 0 0 0 0 0 0 0 0 0 p0.b p0.bad ([])
def Bz (a3:Int) (a4:Int) (a1:(List Int)) (a0:Bool) (a2:(List api_Span)):Option ((List api_Span)×ref12_reader) :=
  some (a2,(ref12_reader.mk a1 a0))
def F8 (F:Nat) (p1:Int) (a3:Int) (a4:Int) (k2:(Int→Int→(List Int)→Bool→(List api_Span)→Option ((List api_Span)×ref12_reader))) (a1:(Int×ref12_reader)) (a2:(List api_Span)):Option ((List api_Span)×ref12_reader) :=
  bif (decide (((a2.length:Nat):Int)<p1)) then ((Co F (ref12_reader.mk a1.2.b a1.2.bad)).bind fun a0 =>
  (apd 16 a2 ([(api_Span.mk a0.1.Lo a0.1.Hi)])).bind fun a5 =>
  k2 a0.1.Lo a0.1.Hi a0.2.b (bif a0.2.bad then true else (((a0.1.Lo:Int)==a3)&&(((a0.1.Hi:Int)==a4)&&true))) a5) else (k2 a3 a4 a1.2.b a1.2.bad a2)
def Gr (F:Nat) (p1:Int) (a1:Int) (a2:Int) (k2:(Int→Int→(List Int)→Bool→(List api_Span)→Option ((List api_Span)×ref12_reader))) (a4:(Int×ref12_reader)) (k4:((List api_Span)→Int→Option ((List api_Span)×ref12_reader))) (a0:(List api_Span)) (a3:Int):Option ((List api_Span)×ref12_reader) :=
  bif (decide (a3<a4.1)) then ((apd 16 a0 ([(api_Span.mk a1 a2)])).bind fun a5 =>
  (ck (a3+1)).bind fun a6 =>
  k4 a5 a6) else (F8 F p1 a1 a2 k2 a4 a0)
def Cc (F:Nat) (p1:Int) (a0:Int) (a1:Int) (k2:(Int→Int→(List Int)→Bool→(List api_Span)→Option ((List api_Span)×ref12_reader))) (a2:(Int×ref12_reader)):Nat→(List api_Span)→Int→Option ((List api_Span)×ref12_reader)
  | 0,_,_=>none
  | n+1,a3,a4=>Gr F p1 a0 a1 k2 a2 (Cc F p1 a0 a1 k2 a2 n) a3 a4
def E6 (F:Nat) (p1:Int) (k2:(Int→Int→(List Int)→Bool→(List api_Span)→Option ((List api_Span)×ref12_reader))) (a3:Int) (a4:Int) (a2:(List Int)) (a1:Bool) (a0:(List api_Span)):Option ((List api_Span)×ref12_reader) :=
  bif (decide (((a0.length:Nat):Int)<p1)) then (bif (!a1) then ((ck (p1-((a0.length:Nat):Int))).bind fun a5 =>
  (F7 F (ref12_reader.mk a2 a1) a5).bind fun a6 =>
  Cc F p1 a3 a4 k2 a6 F a0 0) else (Bz a3 a4 a2 a1 a0)) else (Bz a3 a4 a2 a1 a0)
def Bn (F:Nat) (p1:Int):Nat→Int→Int→(List Int)→Bool→(List api_Span)→Option ((List api_Span)×ref12_reader)
  | 0,_,_,_,_,_=>none
  | n+1,a3,a4,a1,a0,a2=>E6 F p1 (Bn F p1 n) a3 a4 a1 a0 a2
def Fe (F:Nat) (p0:ref12_reader) (p1:Int):Option ((List api_Span)×ref12_reader) :=
  Bn F p1 F 0 0 p0.b p0.bad ([])
def Dj (F:Nat) (y6:(Int×ref12_reader)) (a2:ByteArray) (a5:Int) (a6:Int) (a7:Int) (a0:(List (List api_Echo))) (a8:Int) (a9:Int) (aA:Int) (aB:Int) (aC:Int) (a1:(List api_Span)) (aD:Int) (a3:ByteArray) (a4:ByteArray) (aE:Int) (aF:Int) (aG:Int) (aH:Int) (aI:Int) (aJ:Int) (aK:(List Int)) (aL:Bool):Option (ref12_Item×Bool) :=
  bif aL then ((gd ((true==false&&true)) (Ef F (ref12_Item.mk y6.1 a2 aD (api_Sweep.mk (api_Site.mk a4 aE aF aG aH aI aJ a5) a6 a7 a0) (api_Field.mk (api_Grid.mk a8 a9 aA aB aC) a1) a3)) default).bind fun aN =>
  some ((ref12_Item.mk 0 ByteArray.empty 0 (api_Sweep.mk (api_Site.mk ByteArray.empty 0 0 0 0 0 0 0) 0 0 ([]:(List (List api_Echo)))) (api_Field.mk (api_Grid.mk 0 0 0 0 0) ([]:(List api_Span))) ByteArray.empty),false)) else ((gd (((decide (((aK.length:Nat):Int)>0))==false&&true)) (Ef F (ref12_Item.mk y6.1 a2 aD (api_Sweep.mk (api_Site.mk a4 aE aF aG aH aI aJ a5) a6 a7 a0) (api_Field.mk (api_Grid.mk a8 a9 aA aB aC) a1) a3)) default).bind fun aM =>
  bif (bif (decide (((aK.length:Nat):Int)>0)) then true else (aM != 0)) then (some ((ref12_Item.mk 0 ByteArray.empty 0 (api_Sweep.mk (api_Site.mk ByteArray.empty 0 0 0 0 0 0 0) 0 0 ([]:(List (List api_Echo)))) (api_Field.mk (api_Grid.mk 0 0 0 0 0) ([]:(List api_Span))) ByteArray.empty),false)) else (some ((ref12_Item.mk y6.1 a2 aD (api_Sweep.mk (api_Site.mk a4 aE aF aG aH aI aJ a5) a6 a7 a0) (api_Field.mk (api_Grid.mk a8 a9 aA aB aC) a1) a3),true)))
def Lx (F:Nat) (y6:(Int×ref12_reader)) (a5:(ByteArray×ref12_reader)) (a6:(Int×ref12_reader)) (a7:(Int×ref12_reader)) (a8:(Int×ref12_reader)) (a4:(Int×ref12_reader)) (a2:(Int×ref12_reader)) (a9:(Int×ref12_reader)) (aA:(Int×ref12_reader)) (aB:(Int×ref12_reader)) (aC:(Int×ref12_reader)) (a0:((List api_Echo)×ref12_reader)) (k2:((List (List api_Echo))→Int→Option (ref12_Item×Bool))) (a3:(List (List api_Echo))) (a1:Int):Option (ref12_Item×Bool) :=
  (ck (4*a4.1)).bind fun aF =>
  bif (decide (a1<aF)) then (bif (!a0.2.bad) then ((ck (a1*a2.1)).bind fun aG =>
  (ck (a1+1)).bind fun aH =>
  (ck (aH*a2.1)).bind fun aI =>
  (H0 a0.1 aG aI).bind fun aD =>
  (apd 24 a3 ([aD])).bind fun aE =>
  (ck (a1+1)).bind fun aJ =>
  k2 aE aJ) else (Dj F y6 ByteArray.empty aA.1 aB.1 aC.1 a3 0 0 0 0 0 ([]) 0 ByteArray.empty a5.1 a6.1 a7.1 a8.1 a4.1 a2.1 a9.1 a0.2.b a0.2.bad)) else (Dj F y6 ByteArray.empty aA.1 aB.1 aC.1 a3 0 0 0 0 0 ([]) 0 ByteArray.empty a5.1 a6.1 a7.1 a8.1 a4.1 a2.1 a9.1 a0.2.b a0.2.bad)
def Gy (F:Nat) (y6:(Int×ref12_reader)) (a0:(ByteArray×ref12_reader)) (a1:(Int×ref12_reader)) (a2:(Int×ref12_reader)) (a3:(Int×ref12_reader)) (a4:(Int×ref12_reader)) (a5:(Int×ref12_reader)) (a6:(Int×ref12_reader)) (a7:(Int×ref12_reader)) (a8:(Int×ref12_reader)) (a9:(Int×ref12_reader)) (aA:((List api_Echo)×ref12_reader)):Nat→(List (List api_Echo))→Int→Option (ref12_Item×Bool)
  | 0,_,_=>none
  | n+1,aB,aC=>Lx F y6 a0 a1 a2 a3 a4 a5 a6 a7 a8 a9 aA (Gy F y6 a0 a1 a2 a3 a4 a5 a6 a7 a8 a9 aA n) aB aC
def Nn (F:Nat) (p0:(List Int)):Option (ref12_Item×Bool) :=
  (Aa F (ref12_reader.mk p0 false)).bind fun y6 =>
  bif (y6.1==1) then ((Dq F (ref12_reader.mk y6.2.b y6.2.bad)).bind fun a4 =>
  (Bb F (ref12_reader.mk a4.2.b a4.2.bad)).bind fun a5 =>
  (Bb F (ref12_reader.mk a5.2.b a5.2.bad)).bind fun a6 =>
  (Aa F (ref12_reader.mk a6.2.b a6.2.bad)).bind fun a7 =>
  (Aa F (ref12_reader.mk a7.2.b a7.2.bad)).bind fun a0 =>
  (Aa F (ref12_reader.mk a0.2.b a0.2.bad)).bind fun a1 =>
  (Aa F (ref12_reader.mk a1.2.b a1.2.bad)).bind fun a8 =>
  (Aa F (ref12_reader.mk a8.2.b a8.2.bad)).bind fun a9 =>
  (Aa F (ref12_reader.mk a9.2.b a9.2.bad)).bind fun aD =>
  (Aa F (ref12_reader.mk aD.2.b aD.2.bad)).bind fun aE =>
  (Fj F (api_Site.mk a4.1 a5.1 a6.1 a7.1 a0.1 a1.1 a8.1 a9.1)).bind fun aN =>
  bif (aN != 0) then (some ((ref12_Item.mk 0 ByteArray.empty 0 (api_Sweep.mk (api_Site.mk ByteArray.empty 0 0 0 0 0 0 0) 0 0 ([]:(List (List api_Echo)))) (api_Field.mk (api_Grid.mk 0 0 0 0 0) ([]:(List api_Span))) ByteArray.empty),false)) else ((ck (4*a0.1)).bind fun aK =>
  (ck (aK*a1.1)).bind fun aL =>
  (Eu F (ref12_reader.mk aE.2.b aE.2.bad) aL).bind fun aO =>
  Gy F y6 a4 a5 a6 a7 a0 a1 a8 a9 aD aE aO F ([]) 0)) else (bif (y6.1==2) then ((Dq F (ref12_reader.mk y6.2.b y6.2.bad)).bind fun aF =>
  (Aa F (ref12_reader.mk aF.2.b aF.2.bad)).bind fun aG =>
  (Bb F (ref12_reader.mk aG.2.b aG.2.bad)).bind fun aA =>
  (Bb F (ref12_reader.mk aA.2.b aA.2.bad)).bind fun aB =>
  (Aa F (ref12_reader.mk aB.2.b aB.2.bad)).bind fun aC =>
  (Aa F (ref12_reader.mk aC.2.b aC.2.bad)).bind fun a2 =>
  (Aa F (ref12_reader.mk a2.2.b a2.2.bad)).bind fun a3 =>
  bif ((Cb (api_Grid.mk aA.1 aB.1 aC.1 a2.1 a3.1)) != 0) then (some ((ref12_Item.mk 0 ByteArray.empty 0 (api_Sweep.mk (api_Site.mk ByteArray.empty 0 0 0 0 0 0 0) 0 0 ([]:(List (List api_Echo)))) (api_Field.mk (api_Grid.mk 0 0 0 0 0) ([]:(List api_Span))) ByteArray.empty),false)) else ((ck (a2.1*a3.1)).bind fun aM =>
  (Fe F (ref12_reader.mk a3.2.b a3.2.bad) aM).bind fun aH =>
  Dj F y6 aF.1 0 0 0 ([]) aA.1 aB.1 aC.1 a2.1 a3.1 aH.1 aG.1 ByteArray.empty ByteArray.empty 0 0 0 0 0 0 aH.2.b aH.2.bad)) else (bif (y6.1==3) then ((Aa F (ref12_reader.mk y6.2.b y6.2.bad)).bind fun aI =>
  (Dq F (ref12_reader.mk aI.2.b aI.2.bad)).bind fun aJ =>
  Dj F y6 ByteArray.empty 0 0 0 ([]) 0 0 0 0 0 ([]) aI.1 aJ.1 ByteArray.empty 0 0 0 0 0 0 aJ.2.b aJ.2.bad) else (Dj F y6 ByteArray.empty 0 0 0 ([]) 0 0 0 0 0 ([]) 0 ByteArray.empty ByteArray.empty 0 0 0 0 0 0 y6.2.b y6.2.bad)))
def Pf (F:Nat) (p0:(List Int)):Option (ref12_Item×Int) :=
  (Aa F (ref12_reader.mk p0 false)).bind fun y6 =>
  bif y6.2.bad then (some ((ref12_Item.mk 0 ByteArray.empty 0 (api_Sweep.mk (api_Site.mk ByteArray.empty 0 0 0 0 0 0 0) 0 0 ([]:(List (List api_Echo)))) (api_Field.mk (api_Grid.mk 0 0 0 0 0) ([]:(List api_Span))) ByteArray.empty),15)) else ((ck (y6.1+5)).bind fun a4 =>
  bif (((y6.2.b.length:Nat):Int) != a4) then (some ((ref12_Item.mk 0 ByteArray.empty 0 (api_Sweep.mk (api_Site.mk ByteArray.empty 0 0 0 0 0 0 0) 0 0 ([]:(List (List api_Echo)))) (api_Field.mk (api_Grid.mk 0 0 0 0 0) ([]:(List api_Span))) ByteArray.empty),15)) else ((ck (((p0.length:Nat):Int)-5)).bind fun a5 =>
  (H0 p0 a5 ((p0.length:Nat):Int)).bind fun a1 =>
  (ck (((p0.length:Nat):Int)-5)).bind fun a6 =>
  (H0 p0 (0:Int) a6).bind fun a2 =>
  (No F a2).bind fun a7 =>
  (Qn F a1 a7).bind fun a8 =>
  bif (!a8) then (some ((ref12_Item.mk 0 ByteArray.empty 0 (api_Sweep.mk (api_Site.mk ByteArray.empty 0 0 0 0 0 0 0) 0 0 ([]:(List (List api_Echo)))) (api_Field.mk (api_Grid.mk 0 0 0 0 0) ([]:(List api_Span))) ByteArray.empty),15)) else ((H0 y6.2.b (0:Int) y6.1).bind fun a3 =>
  (Nn F a3).bind fun a0 =>
  bif (!a0.2) then (some ((ref12_Item.mk 0 ByteArray.empty 0 (api_Sweep.mk (api_Site.mk ByteArray.empty 0 0 0 0 0 0 0) 0 0 ([]:(List (List api_Echo)))) (api_Field.mk (api_Grid.mk 0 0 0 0 0) ([]:(List api_Span))) ByteArray.empty),7)) else (some ((ref12_Item.mk a0.1.Kind a0.1.Name a0.1.Time (api_Sweep.mk (api_Site.mk a0.1.Sweep.Site.Name a0.1.Sweep.Site.X a0.1.Sweep.Site.Y a0.1.Sweep.Site.Z a0.1.Sweep.Site.Rose a0.1.Sweep.Site.Gates a0.1.Sweep.Site.Step a0.1.Sweep.Site.Width) a0.1.Sweep.Tilt a0.1.Sweep.Time a0.1.Sweep.Rays) (api_Field.mk (api_Grid.mk a0.1.Field.Grid.X a0.1.Field.Grid.Y a0.1.Field.Grid.Size a0.1.Field.Grid.Wide a0.1.Field.Grid.High) a0.1.Field.Vals) a0.1.Text),0)))))
def Ly (F:Nat) (p0:(List Int)) (a1:Bool):Option Bool :=
  (Aa F (ref12_reader.mk p0 false)).bind fun a0 =>
  bif a1 then (some true) else (bif (!a0.2.bad) then ((ck (a0.1+5)).bind fun a2 =>
  some (decide (((a0.2.b.length:Nat):Int)<a2))) else (some false))
def P6 (F:Nat) (p0:(List Int)) (k2:(Bool→Int→Option Bool)) (a0:Bool) (a1:Int):Option Bool :=
  bif (decide (a1<((p0.length:Nat):Int))) then ((gd ((a0==true&&true)) (Bh p0 a1) default).bind fun a2 =>
  (gd (((bif a0 then (decide (a2≥128)) else false)==true&&true)) (Bh p0 a1) default).bind fun a3 =>
  (ck (a1+1)).bind fun a4 =>
  k2 (bif (bif a0 then (decide (a2≥128)) else false) then (decide (a3≤254)) else false) a4) else (Ly F p0 a0)
def Kl (F:Nat) (p0:(List Int)):Nat→Bool→Int→Option Bool
  | 0,_,_=>none
  | n+1,a0,a1=>P6 F p0 (Kl F p0 n) a0 a1
def Qp (F:Nat) (p0:(List Int)):Option Bool :=
  Kl F p0 F true 0
def J8 (a0:(List ref12_Item)) (a1:Int) (a2:Int):Option ((List ref12_Item)×Int×Int) :=
  bif (decide (((a0.length:Nat):Int)>1000)) then (some (([]:(List ref12_Item)),0,9)) else (some (a0,a1,a2))
def Gx (a2:(List ref12_Item)) (a4:Int) (k2:((List ref12_Item)→Int→Int→Option ((List ref12_Item)×Int×Int))) (a5:Int) (a0:(ref12_Item×Int)) (a1:Int):Option ((List ref12_Item)×Int×Int) :=
  bif (a1==0) then ((apd 224 a2 ([(ref12_Item.mk a0.1.Kind a0.1.Name a0.1.Time (api_Sweep.mk (api_Site.mk a0.1.Sweep.Site.Name a0.1.Sweep.Site.X a0.1.Sweep.Site.Y a0.1.Sweep.Site.Z a0.1.Sweep.Site.Rose a0.1.Sweep.Site.Gates a0.1.Sweep.Site.Step a0.1.Sweep.Site.Width) a0.1.Sweep.Tilt a0.1.Sweep.Time a0.1.Sweep.Rays) (api_Field.mk (api_Grid.mk a0.1.Field.Grid.X a0.1.Field.Grid.Y a0.1.Field.Grid.Size a0.1.Field.Grid.Wide a0.1.Field.Grid.High) a0.1.Field.Vals) a0.1.Text)])).bind fun a3 =>
  k2 a3 a5 a1) else (k2 a2 a4 a1)
def Kh (F:Nat) (p0:(List Int)) (k2:((List ref12_Item)→Int→Int→Option ((List ref12_Item)×Int×Int))) (a3:(List ref12_Item)) (a0:Int) (a4:Int):Option ((List ref12_Item)×Int×Int) :=
  bif (bif (decide (a0<((p0.length:Nat):Int))) then (a4==0) else false) then ((ck (a0+1)).bind fun a7 =>
  (Uc F p0 a7).bind fun a1 =>
  (ck (a0+1)).bind fun a8 =>
  (H0 p0 a8 a1).bind fun a5 =>
  (Pf F a5).bind fun a2 =>
  bif (bif (a2.2 != 0) then (a1==((p0.length:Nat):Int)) else false) then ((ck (a0+1)).bind fun a9 =>
  (H0 p0 a9 a1).bind fun a6 =>
  (Qp F a6).bind fun aA =>
  bif aA then (Gx a3 a0 k2 a1 a2 16) else (Gx a3 a0 k2 a1 a2 a2.2)) else (Gx a3 a0 k2 a1 a2 a2.2)) else (J8 a3 a0 a4)
def G0 (F:Nat) (p0:(List Int)):Nat→(List ref12_Item)→Int→Int→Option ((List ref12_Item)×Int×Int)
  | 0,_,_,_=>none
  | n+1,a0,a1,a2=>Kh F p0 (G0 F p0 n) a0 a1 a2
def Fq (F:Nat) (p0:(List Int)):Option ((List ref12_Item)×Int×Int) :=
  bif (decide (((p0.length:Nat):Int)>16777216)) then (some (([]:(List ref12_Item)),0,8)) else (bif (decide (((p0.length:Nat):Int)<4)) then ((gd (((decide (((p0.length:Nat):Int)>4))==true&&(true==false&&true))) (Bh p0 4) default).bind fun u5 =>
  some (([]:(List ref12_Item)),0,7)) else ((H0 p0 (0:Int) 4).bind fun l6 =>
  (gd (((decide (((p0.length:Nat):Int)>4))==true&&((!(sEq (bst l6) (⟨#[82,86,70,49]⟩:ByteArray)))==false&&true))) (Bh p0 4) default).bind fun u8 =>
  bif (bif (!(sEq (bst l6) (⟨#[82,86,70,49]⟩:ByteArray))) then true else (bif (decide (((p0.length:Nat):Int)>4)) then (u8 != 0) else false)) then (some (([]:(List ref12_Item)),0,7)) else (G0 F p0 F ([]) 4 0)))
def Mt (self_:Int→Option (List Int)) (p0:Int):Option (List Int) :=
  bif (decide (p0<127)) then ((ck (1+p0)).bind fun x1 =>
  some ([IntKind.u8.wrap x1])) else ((Qq p0 127).bind fun x3 =>
  (ck (128+x3)).bind fun x4 =>
  (Pn p0 127).bind fun x6 =>
  (self_ x6).bind fun y8 =>
  (apd 1 ([IntKind.u8.wrap x4]) y8).bind fun a0 =>
  some a0)
def An:Nat→Int→Option (List Int)
  | 0,_=>none
  | F+1,p0=>Mt (An F) p0
def M6 (a0:(List Int)):Option (List Int) :=
  some a0
def M5 (p0:(List (List Int))) (k2:((List Int)→Int→Option (List Int))) (a1:(List Int)) (a0:Int):Option (List Int) :=
  bif (decide (a0<((p0.length:Nat):Int))) then ((Bh p0 a0).bind fun a3 =>
  (apd 1 a1 a3).bind fun a2 =>
  (ck (a0+1)).bind fun a4 =>
  k2 a2 a4) else (M6 a1)
def Hp (p0:(List (List Int))):Nat→(List Int)→Int→Option (List Int)
  | 0,_,_=>none
  | n+1,a0,a1=>M5 p0 (Hp p0 n) a0 a1
def Ep (F:Nat) (p0:(List (List Int))):Option (List Int) :=
  Hp p0 F ([]) 0
def Kk (F:Nat) (p0:ByteArray):Option (List Int) :=
  (An F ((p0.size:Nat):Int)).bind fun y2 =>
  (s2b p0).bind fun l5 =>
  (apd 1 y2 l5).bind fun l8 =>
  some l8
def Di (F:Nat) (p0:Int):Option (List Int) :=
  bif (decide (p0<0)) then ((ck ((-2)*p0)).bind fun x1 =>
  (ck (x1-1)).bind fun x2 =>
  (An F x2).bind fun y4 =>
  some y4) else ((ck (2*p0)).bind fun x7 =>
  (An F x7).bind fun y9 =>
  some y9)
def Gf (F:Nat) (p0:api_Span):Option (List Int) :=
  (ck (p0.Hi-p0.Lo)).bind fun x2 =>
  (Di F p0.Lo).bind fun y4 =>
  (An F x2).bind fun a1 =>
  (apd 1 y4 a1).bind fun a0 =>
  some a0
def Nm (F:Nat) (p0:api_Echo):Option (List Int) :=
  (An F p0.Kind).bind fun y3 =>
  bif (p0.Kind==1) then ((An F p0.Power.Hi).bind fun y7 =>
  (apd 1 y3 y7).bind fun a1 =>
  some a1) else ((Gf F p0.Power).bind fun a6 =>
  (Gf F p0.Ratio).bind fun a8 =>
  (Gf F p0.Match).bind fun a9 =>
  (An F p0.Spread).bind fun aA =>
  (Ep F ([a6,a8,a9,aA])).bind fun aB =>
  (apd 1 y3 aB).bind fun a0 =>
  bif (p0.Kind==3) then ((Gf F (api_Span.mk p0.Steps.1.Lo p0.Steps.1.Hi)).bind fun a3 =>
  (Gf F (api_Span.mk p0.Steps.2.Lo p0.Steps.2.Hi)).bind fun a4 =>
  (Gf F p0.Turn).bind fun a5 =>
  (Ep F ([a3,a4,a5])).bind fun a7 =>
  (apd 1 a0 a7).bind fun a2 =>
  some a2) else (some a0))
def K7 (a1:Int) (a2:Int) (a3:Int) (a4:Int) (a5:Int) (a6:Int) (a7:Int) (a8:Int) (a9:Int) (aA:Int) (aB:Int) (aC:Int) (aD:Int) (aE:Int) (a0:(List Int)):Option (List Int) :=
  some a0
def K8 (F:Nat) (p0:(List api_Echo)) (a7:Int) (a8:Int) (a9:Int) (aA:Int) (aB:Int) (aC:Int) (aD:Int) (aE:Int) (aF:Int) (aG:Int) (aH:Int) (aI:Int) (aJ:Int) (aK:Int) (a5:(List Int)) (aL:Int) (k2:(Int→Int→Int→Int→Int→Int→Int→Int→Int→Int→Int→Int→Int→Int→(List Int)→Int→Option (List Int))) (a4:Int):Option (List Int) :=
  (An F a4).bind fun aN =>
  (apd 1 a5 aN).bind fun a3 =>
  (ck (aL+a4)).bind fun a2 =>
  bif (decide (a2<((p0.length:Nat):Int))) then ((Bh p0 a2).bind fun a1 =>
  (Nm F (api_Echo.mk a1.Kind a1.Power ((api_Span.mk a1.Steps.1.Lo a1.Steps.1.Hi),(api_Span.mk a1.Steps.2.Lo a1.Steps.2.Hi)) a1.Spread a1.Ratio a1.Match a1.Turn)).bind fun aO =>
  (apd 1 a3 aO).bind fun a6 =>
  (Bh p0 a2).bind fun a0 =>
  (ck (a2+1)).bind fun aM =>
  k2 a0.Kind a0.Power.Lo a0.Match.Lo a0.Match.Hi a0.Turn.Lo a0.Turn.Hi a0.Power.Hi a0.Steps.1.Lo a0.Steps.1.Hi a0.Steps.2.Lo a0.Steps.2.Hi a0.Spread a0.Ratio.Lo a0.Ratio.Hi a6 aM) else (k2 a7 a8 a9 aA aB aC aD aE aF aG aH aI aJ aK a3 a2)
def M4 (F:Nat) (p0:(List api_Echo)) (a4:Int) (a5:Int) (a6:Int) (a7:Int) (a8:Int) (a9:Int) (aA:Int) (aB:Int) (aC:Int) (aD:Int) (aE:Int) (aF:Int) (aG:Int) (aH:Int) (aI:(List Int)) (a2:Int) (k2:(Int→Int→Int→Int→Int→Int→Int→Int→Int→Int→Int→Int→Int→Int→(List Int)→Int→Option (List Int))) (k4:(Int→Option (List Int))) (a1:Int):Option (List Int) :=
  (ck (a2+a1)).bind fun a3 =>
  (gd (((decide (a3<((p0.length:Nat):Int)))==true&&true)) (ck (a2+a1)) 0).bind fun aJ =>
  (gd (((decide (a3<((p0.length:Nat):Int)))==true&&true)) (Bh p0 aJ) default).bind fun a0 =>
  bif (bif (decide (a3<((p0.length:Nat):Int))) then (((a0.Kind:Int)==a4)&&((((a0.Power.Lo:Int)==a5)&&(((a0.Power.Hi:Int)==aA)&&true))&&(((((a0.Steps.1.Lo:Int)==aB)&&(((a0.Steps.1.Hi:Int)==aC)&&true))&&((((a0.Steps.2.Lo:Int)==aD)&&(((a0.Steps.2.Hi:Int)==aE)&&true))&&true))&&(((a0.Spread:Int)==aF)&&((((a0.Ratio.Lo:Int)==aG)&&(((a0.Ratio.Hi:Int)==aH)&&true))&&((((a0.Match.Lo:Int)==a6)&&(((a0.Match.Hi:Int)==a7)&&true))&&((((a0.Turn.Lo:Int)==a8)&&(((a0.Turn.Hi:Int)==a9)&&true))&&true))))))) else false) then ((ck (a1+1)).bind fun aK =>
  k4 aK) else (K8 F p0 a4 a5 a6 a7 a8 a9 aA aB aC aD aE aF aG aH aI a2 k2 a1)
def Ho (F:Nat) (p0:(List api_Echo)) (a1:Int) (a2:Int) (a3:Int) (a4:Int) (a5:Int) (a6:Int) (a7:Int) (a8:Int) (a9:Int) (aA:Int) (aB:Int) (aC:Int) (aD:Int) (aE:Int) (a0:(List Int)) (aF:Int) (k2:(Int→Int→Int→Int→Int→Int→Int→Int→Int→Int→Int→Int→Int→Int→(List Int)→Int→Option (List Int))):Nat→Int→Option (List Int)
  | 0,_=>none
  | n+1,aG=>M4 F p0 a1 a2 a3 a4 a5 a6 a7 a8 a9 aA aB aC aD aE a0 aF k2 (Ho F p0 a1 a2 a3 a4 a5 a6 a7 a8 a9 aA aB aC aD aE a0 aF k2 n) aG
def K6 (F:Nat) (p0:(List api_Echo)) (k2:(Int→Int→Int→Int→Int→Int→Int→Int→Int→Int→Int→Int→Int→Int→(List Int)→Int→Option (List Int))) (a1:Int) (a2:Int) (a3:Int) (a4:Int) (a5:Int) (a6:Int) (a7:Int) (a8:Int) (a9:Int) (aA:Int) (aB:Int) (aC:Int) (aD:Int) (aE:Int) (a0:(List Int)) (aF:Int):Option (List Int) :=
  bif (decide (aF<((p0.length:Nat):Int))) then (Ho F p0 a1 a2 a3 a4 a5 a6 a7 a8 a9 aA aB aC aD aE a0 aF k2 F 0) else (K7 a1 a2 a3 a4 a5 a6 a7 a8 a9 aA aB aC aD aE a0)
def Ge (F:Nat) (p0:(List api_Echo)):Nat→Int→Int→Int→Int→Int→Int→Int→Int→Int→Int→Int→Int→Int→Int→(List Int)→Int→Option (List Int)
  | 0,_,_,_,_,_,_,_,_,_,_,_,_,_,_,_,_=>none
  | n+1,a1,a2,a3,a4,a5,a6,a7,a8,a9,aA,aB,aC,aD,aE,a0,aF=>K6 F p0 (Ge F p0 n) a1 a2 a3 a4 a5 a6 a7 a8 a9 aA aB aC aD aE a0 aF
def Li (F:Nat) (p0:(List api_Echo)):Option (List Int) :=
  Ge F p0 F 1 0 0 0 0 0 0 0 0 0 0 0 0 0 ([]) 0
def L4 (a1:Int) (a2:Int) (a0:(List Int)):Option (List Int) :=
  some a0
def L5 (F:Nat) (p0:(List api_Span)) (a7:Int) (a8:Int) (a4:(List Int)) (a9:Int) (k2:(Int→Int→(List Int)→Int→Option (List Int))) (a3:Int):Option (List Int) :=
  (An F a3).bind fun aB =>
  (apd 1 a4 aB).bind fun a1 =>
  (ck (a9+a3)).bind fun a0 =>
  bif (decide (a0<((p0.length:Nat):Int))) then ((Bh p0 a0).bind fun a6 =>
  (Gf F a6).bind fun aC =>
  (apd 1 a1 aC).bind fun a5 =>
  (Bh p0 a0).bind fun a2 =>
  (ck (a0+1)).bind fun aA =>
  k2 a2.Lo a2.Hi a5 aA) else (k2 a7 a8 a1 a0)
def Mu (F:Nat) (p0:(List api_Span)) (a4:Int) (a5:Int) (a6:(List Int)) (a1:Int) (k2:(Int→Int→(List Int)→Int→Option (List Int))) (k4:(Int→Option (List Int))) (a0:Int):Option (List Int) :=
  (ck (a1+a0)).bind fun a2 =>
  (gd (((decide (a2<((p0.length:Nat):Int)))==true&&true)) (ck (a1+a0)) 0).bind fun a7 =>
  (gd (((decide (a2<((p0.length:Nat):Int)))==true&&true)) (Bh p0 a7) default).bind fun a3 =>
  bif (bif (decide (a2<((p0.length:Nat):Int))) then (((a3.Lo:Int)==a4)&&(((a3.Hi:Int)==a5)&&true)) else false) then ((ck (a0+1)).bind fun a8 =>
  k4 a8) else (L5 F p0 a4 a5 a6 a1 k2 a0)
def Jo (F:Nat) (p0:(List api_Span)) (a1:Int) (a2:Int) (a0:(List Int)) (a3:Int) (k2:(Int→Int→(List Int)→Int→Option (List Int))):Nat→Int→Option (List Int)
  | 0,_=>none
  | n+1,a4=>Mu F p0 a1 a2 a0 a3 k2 (Jo F p0 a1 a2 a0 a3 k2 n) a4
def L3 (F:Nat) (p0:(List api_Span)) (k2:(Int→Int→(List Int)→Int→Option (List Int))) (a1:Int) (a2:Int) (a0:(List Int)) (a3:Int):Option (List Int) :=
  bif (decide (a3<((p0.length:Nat):Int))) then (Jo F p0 a1 a2 a0 a3 k2 F 0) else (L4 a1 a2 a0)
def H7 (F:Nat) (p0:(List api_Span)):Nat→Int→Int→(List Int)→Int→Option (List Int)
  | 0,_,_,_,_=>none
  | n+1,a1,a2,a0,a3=>L3 F p0 (H7 F p0 n) a1 a2 a0 a3
def Mf (F:Nat) (p0:(List api_Span)):Option (List Int) :=
  H7 F p0 F 0 0 ([]) 0
def Lw (F:Nat) (p0:ref12_Item):Option (List Int) :=
  (An F 3).bind fun a0 =>
  (An F p0.Time).bind fun a1 =>
  (Kk F p0.Text).bind fun a2 =>
  (Ep F ([a0,a1,a2])).bind fun a3 =>
  some a3
def Kj (F:Nat) (p0:ref12_Item) (a0:(List api_Echo)):Option (List Int) :=
  (An F 1).bind fun a1 =>
  (Kk F p0.Sweep.Site.Name).bind fun a2 =>
  (Di F p0.Sweep.Site.X).bind fun a3 =>
  (Di F p0.Sweep.Site.Y).bind fun a4 =>
  (An F p0.Sweep.Site.Z).bind fun a5 =>
  (An F p0.Sweep.Site.Rose).bind fun a6 =>
  (An F p0.Sweep.Site.Gates).bind fun a7 =>
  (An F p0.Sweep.Site.Step).bind fun a8 =>
  (An F p0.Sweep.Site.Width).bind fun a9 =>
  (An F p0.Sweep.Tilt).bind fun aA =>
  (An F p0.Sweep.Time).bind fun aB =>
  (Li F a0).bind fun aC =>
  (Ep F ([a1,a2,a3,a4,a5,a6,a7,a8,a9,aA,aB,aC])).bind fun aD =>
  some aD
def P3 (F:Nat) (p0:ref12_Item) (k3:((List api_Echo)→Int→Option (List Int))) (a1:(List api_Echo)) (a0:Int):Option (List Int) :=
  bif (decide (a0<((p0.Sweep.Rays.length:Nat):Int))) then ((Bh p0.Sweep.Rays a0).bind fun a3 =>
  (apd 112 a1 a3).bind fun a2 =>
  (ck (a0+1)).bind fun a4 =>
  k3 a2 a4) else (Kj F p0 a1)
def J9 (F:Nat) (p0:ref12_Item):Nat→(List api_Echo)→Int→Option (List Int)
  | 0,_,_=>none
  | n+1,a0,a1=>P3 F p0 (J9 F p0 n) a0 a1
def M9 (F:Nat) (p0:ref12_Item):Option (List Int) :=
  bif (p0.Kind==1) then (J9 F p0 F ([]) 0) else (bif (p0.Kind==2) then ((An F 2).bind fun a0 =>
  (Kk F p0.Name).bind fun a1 =>
  (An F p0.Time).bind fun a2 =>
  (Di F p0.Field.Grid.X).bind fun a3 =>
  (Di F p0.Field.Grid.Y).bind fun a4 =>
  (An F p0.Field.Grid.Size).bind fun a5 =>
  (An F p0.Field.Grid.Wide).bind fun a6 =>
  (An F p0.Field.Grid.High).bind fun a7 =>
  (Mf F p0.Field.Vals).bind fun a8 =>
  (Ep F ([a0,a1,a2,a3,a4,a5,a6,a7,a8])).bind fun a9 =>
  some a9) else (Lw F p0))
def Jr (F:Nat) (p0:ref12_Item):Option (List Int) :=
  (M9 F p0).bind fun a1 =>
  (An F ((a1.length:Nat):Int)).bind fun a3 =>
  (apd 1 a3 a1).bind fun a0 =>
  (No F a0).bind fun a4 =>
  (apd 1 a0 a4).bind fun a2 =>
  some a2
def P5 (a0:(List Int)):Option (List Int) :=
  some a0
def P4 (F:Nat) (p0:(List ref12_Item)) (k2:((List Int)→Int→Option (List Int))) (a1:(List Int)) (a0:Int):Option (List Int) :=
  bif (decide (a0<((p0.length:Nat):Int))) then ((Bh p0 a0).bind fun a4 =>
  (apd 1 a1 ([0])).bind fun a2 =>
  (Jr F a4).bind fun a6 =>
  (apd 1 a2 a6).bind fun a3 =>
  (ck (a0+1)).bind fun a5 =>
  k2 a3 a5) else (P5 a1)
def Ja (F:Nat) (p0:(List ref12_Item)):Nat→(List Int)→Int→Option (List Int)
  | 0,_,_=>none
  | n+1,a0,a1=>P4 F p0 (Ja F p0 n) a0 a1
def Sh (F:Nat) (p0:(List ref12_Item)):Option (List Int) :=
  Ja F p0 F ([82,86,70,49]) 0
def L2 (F:Nat) (p0:(List ref12_Item)):Option ((List Int)×Int) :=
  (Sh F p0).bind fun a0 =>
  bif (decide (((a0.length:Nat):Int)>16777216)) then (some (([]:(List Int)),8)) else (some (a0,0))
def Ms (F:Nat) (p0:(List ref12_Item)) (k2:(Int→Option ((List Int)×Int))) (a0:Int):Option ((List Int)×Int) :=
  bif (decide (a0<((p0.length:Nat):Int))) then ((Bh p0 a0).bind fun a2 =>
  (Ef F a2).bind fun a1 =>
  bif (a1 != 0) then (some (([]:(List Int)),a1)) else ((ck (a0+1)).bind fun a3 =>
  k2 a3)) else (L2 F p0)
def Jm (F:Nat) (p0:(List ref12_Item)):Nat→Int→Option ((List Int)×Int)
  | 0,_=>none
  | n+1,a0=>Ms F p0 (Jm F p0 n) a0
def Pe (F:Nat) (p0:(List ref12_Item)):Option ((List Int)×Int) :=
  bif (decide (((p0.length:Nat):Int)>1000)) then (some (([]:(List Int)),9)) else (Jm F p0 F 0)
def Ej (p0:volume_sweep):Int :=
  p0.Sweep.Time
def Eh (p0:volume_field):Int :=
  p0.time
def F3 (p0:volume_note):Int :=
  p0.time
def N7 (F:Nat) (p0:volume_thing):Option Int:=p0.cs none (fun y=>some (Ej y)) (fun y=>some (Eh y)) (fun y=>some (F3 y))
def L8 (a1:(List volume_entry)) (a0:(List Int)):Option ((List Int)×Int) :=
  bif (decide (((a1.length:Nat):Int)>1000)) then (some (([]:(List Int)),9)) else (bif (decide (((a0.length:Nat):Int)>16777216)) then (some (([]:(List Int)),8)) else (some (a0,0)))
def Mz (a1:(List volume_entry)) (k3:((List Int)→Int→Option ((List Int)×Int))) (a2:(List Int)) (a0:Int):Option ((List Int)×Int) :=
  bif (decide (a0<((a1.length:Nat):Int))) then ((Bh a1 a0).bind fun a4 =>
  (apd 1 a2 a4.block).bind fun a3 =>
  (ck (a0+1)).bind fun a5 =>
  k3 a3 a5) else (L8 a1 a2)
def H9 (a0:(List volume_entry)):Nat→(List Int)→Int→Option ((List Int)×Int)
  | 0,_,_=>none
  | n+1,a1,a2=>Mz a0 (H9 a0 n) a1 a2
def L7 (F:Nat) (a0:(List volume_entry)):Option ((List Int)×Int) :=
  (Kr F a0).bind fun a1 =>
  (J0 F a1).bind fun a2 =>
  H9 a2 F ([82,86,70,49]) 0
def H8 (a1:Int) (k4:(Int→(List volume_entry)→Option ((List Int)×Int))) (a0:(List volume_entry)):Option ((List Int)×Int) :=
  (ck (a1+1)).bind fun a2 =>
  k4 a2 a0
def N0 (F:Nat) (a5:Int) (k4:(Int→(List volume_entry)→Option ((List Int)×Int))) (a3:((List volume_Item)×Int×Int)) (k6:(Int→(List volume_entry)→Option ((List Int)×Int))) (a0:Int) (a1:(List volume_entry)):Option ((List Int)×Int) :=
  bif (decide (a0<((a3.1.length:Nat):Int))) then ((Bh a3.1 a0).bind fun a2 =>
  (N7 F (F4 a2)).bind fun a7 =>
  (Lm F (F4 a2)).bind fun a8 =>
  (apd 32 a1 ([(volume_entry.mk a7 a8)])).bind fun a4 =>
  (ck (a0+1)).bind fun a6 =>
  k6 a6 a4) else (H8 a5 k4 a1)
def Fb (F:Nat) (a0:Int) (k4:(Int→(List volume_entry)→Option ((List Int)×Int))) (a1:((List volume_Item)×Int×Int)):Nat→Int→(List volume_entry)→Option ((List Int)×Int)
  | 0,_,_=>none
  | n+1,a3,a2=>N0 F a0 k4 a1 (Fb F a0 k4 a1 n) a3 a2
def Fa (F:Nat) (p0:(List Int)) (p1:(List Int)) (k4:(Int→(List volume_entry)→Option ((List Int)×Int))) (a0:Int) (a2:(List volume_entry)):Option ((List Int)×Int) :=
  bif (decide (a0<((2:Nat):Int))) then ((Bh ([p0,p1]) a0).bind fun a3 =>
  (C9 F a3).bind fun a1 =>
  bif (a1.2.2 != 0) then (some (([]:(List Int)),a1.2.2)) else (Fb F a0 k4 a1 F 0 a2)) else (L7 F a2)
def Eo (F:Nat) (p0:(List Int)) (p1:(List Int)):Nat→Int→(List volume_entry)→Option ((List Int)×Int)
  | 0,_,_=>none
  | n+1,a1,a0=>Fa F p0 p1 (Eo F p0 p1 n) a1 a0
def Gz (F:Nat) (p0:(List Int)) (p1:(List Int)):Option ((List Int)×Int) :=
  Eo F p0 p1 F 0 ([])
def Ed (p0:ref12_Item):Int :=
  bif (p0.Kind==1) then (p0.Sweep.Time) else (p0.Time)
def K5 (a0:(List Int)) (a1:(List Int)):Option Bool :=
  some (decide (((a0.length:Nat):Int)<((a1.length:Nat):Int)))
def M3 (a1:(List Int)) (a2:(List Int)) (k2:(Int→Option Bool)) (a0:Int):Option Bool :=
  bif (bif (decide (a0<((a1.length:Nat):Int))) then (decide (a0<((a2.length:Nat):Int))) else false) then ((Bh a1 a0).bind fun a3 =>
  (Bh a2 a0).bind fun a4 =>
  bif (a3 != a4) then ((Bh a1 a0).bind fun a5 =>
  (Bh a2 a0).bind fun a6 =>
  some (decide (a5<a6))) else ((ck (a0+1)).bind fun a7 =>
  k2 a7)) else (K5 a1 a2)
def Hm (a0:(List Int)) (a1:(List Int)):Nat→Int→Option Bool
  | 0,_=>none
  | n+1,a2=>M3 a0 a1 (Hm a0 a1 n) a2
def Lh (F:Nat) (p0:ref12_Item) (p1:ref12_Item):Option Bool :=
  (Jr F p0).bind fun a0 =>
  (Jr F p1).bind fun a1 =>
  bif ((Ed p0) != (Ed p1)) then (some (decide ((Ed p0)<(Ed p1)))) else (Hm a0 a1 F 0)
def Ke (F:Nat) (a1:(List ref12_Item)):Option ((List Int)×Int) :=
  (Pe F a1).bind fun a0 =>
  some (a0.1,a0.2)
def Gw (a1:Int) (k2:((List ref12_Item)→Int→Option ((List Int)×Int))) (a0:(List ref12_Item)):Option ((List Int)×Int) :=
  (ck (a1+1)).bind fun a2 =>
  k2 a0 a2
def Kf (F:Nat) (a3:(List ref12_Item)) (a0:(List ref12_Item)) (a2:Int) (k2:((List ref12_Item)→Int→Option ((List Int)×Int))) (a1:Int):Option ((List Int)×Int) :=
  bif (decide (a1<((a0.length:Nat):Int))) then ((Bh a3 a2).bind fun aE =>
  (Bh a0 a1).bind fun aF =>
  (Lh F aE aF).bind fun aI =>
  bif (!(bif (decide (a1<((a0.length:Nat):Int))) then (!aI) else false)) then ((H0 a0 (0:Int) a1).bind fun a4 =>
  (Bh a3 a2).bind fun aG =>
  (H0 a0 a1 ((a0.length:Nat):Int)).bind fun a5 =>
  (apd 224 ([]:List ref12_Item) a4).bind fun a6 =>
  (apd 224 a6 ([aG])).bind fun a7 =>
  (apd 224 a7 a5).bind fun a8 =>
  Gw a2 k2 a8) else (Gw a2 k2 a0)) else (bif (!(bif (decide (a1<((a0.length:Nat):Int))) then true else false)) then ((H0 a0 (0:Int) a1).bind fun a9 =>
  (Bh a3 a2).bind fun aH =>
  (H0 a0 a1 ((a0.length:Nat):Int)).bind fun aA =>
  (apd 224 ([]:List ref12_Item) a9).bind fun aB =>
  (apd 224 aB ([aH])).bind fun aC =>
  (apd 224 aC aA).bind fun aD =>
  Gw a2 k2 aD) else (Gw a2 k2 a0))
def P1 (F:Nat) (a2:(List ref12_Item)) (a1:(List ref12_Item)) (a3:Int) (k2:((List ref12_Item)→Int→Option ((List Int)×Int))) (k5:(Int→Option ((List Int)×Int))) (a0:Int):Option ((List Int)×Int) :=
  bif (decide (a0<((a1.length:Nat):Int))) then ((Bh a1 a0).bind fun a4 =>
  (Bh a2 a3).bind fun a5 =>
  (Lh F a4 a5).bind fun a8 =>
  bif (bif (decide (a0<((a1.length:Nat):Int))) then a8 else false) then ((ck (a0+1)).bind fun a6 =>
  k5 a6) else (Kf F a2 a1 a3 k2 a0)) else (bif (bif (decide (a0<((a1.length:Nat):Int))) then false else false) then ((ck (a0+1)).bind fun a7 =>
  k5 a7) else (Kf F a2 a1 a3 k2 a0))
def Kg (F:Nat) (a0:(List ref12_Item)) (a1:(List ref12_Item)) (a2:Int) (k2:((List ref12_Item)→Int→Option ((List Int)×Int))):Nat→Int→Option ((List Int)×Int)
  | 0,_=>none
  | n+1,a3=>P1 F a0 a1 a2 k2 (Kg F a0 a1 a2 k2 n) a3
def P0 (F:Nat) (a0:(List ref12_Item)) (k2:((List ref12_Item)→Int→Option ((List Int)×Int))) (a1:(List ref12_Item)) (a2:Int):Option ((List Int)×Int) :=
  bif (decide (a2<((a0.length:Nat):Int))) then (Kg F a0 a1 a2 k2 F 0) else (Ke F a1)
def J7 (F:Nat) (a0:(List ref12_Item)):Nat→(List ref12_Item)→Int→Option ((List Int)×Int)
  | 0,_,_=>none
  | n+1,a1,a2=>P0 F a0 (J7 F a0 n) a1 a2
def L1 (F:Nat) (p0:(List Int)) (p1:(List Int)):Option ((List Int)×Int) :=
  (Fq F p0).bind fun y8 =>
  bif (y8.2.2 != 0) then (some (([]:(List Int)),y8.2.2)) else ((Fq F p1).bind fun a0 =>
  bif (a0.2.2 != 0) then (some (([]:(List Int)),a0.2.2)) else ((apd 224 ([]:List ref12_Item) y8.1).bind fun a1 =>
  (apd 224 a1 a0.1).bind fun a2 =>
  J7 F a2 F ([]) 0))
def Ei (p0:volume_sweep):ByteArray :=
  p0.Sweep.Site.Name
def Eg (p0:volume_field):ByteArray :=
  p0.key
def F2 (p0:volume_note):ByteArray :=
  (⟨#[]⟩:ByteArray)
def My (a0:(List Int)):Option ((List Int)×Int) :=
  some (a0,0)
def De (a1:Int) (k2:(Int→(List Int)→Option ((List Int)×Int))) (a0:(List Int)):Option ((List Int)×Int) :=
  (ck (a1+1)).bind fun a2 =>
  k2 a2 a0
def Mx (p1:volume_Query) (y6:((List volume_Item)×Int×Int)) (k2:(Int→(List Int)→Option ((List Int)×Int))) (a0:Int) (a2:(List Int)):Option ((List Int)×Int) :=
  bif (decide (a0<((y6.1.length:Nat):Int))) then ((Bh y6.1 a0).bind fun a3 =>
  volume_thing.cs (F4 a3) (none) (fun a1=>bif (bif (bif (bif (bif (p1.Kind==0) then true else (p1.Kind==a3.Kind)) then (bif (sEq p1.Name (⟨#[]⟩:ByteArray)) then true else (sEq p1.Name (Ei a1))) else false) then (decide ((Ej a1)≥p1.From)) else false) then (decide ((Ej a1)≤p1.To)) else false) then ((apd 8 a2 ([a0])).bind fun a4 =>
  De a0 k2 a4) else (De a0 k2 a2)) (fun a1=>bif (bif (bif (bif (bif (p1.Kind==0) then true else (p1.Kind==a3.Kind)) then (bif (sEq p1.Name (⟨#[]⟩:ByteArray)) then true else (sEq p1.Name (Eg a1))) else false) then (decide ((Eh a1)≥p1.From)) else false) then (decide ((Eh a1)≤p1.To)) else false) then ((apd 8 a2 ([a0])).bind fun a5 =>
  De a0 k2 a5) else (De a0 k2 a2)) (fun a1=>bif (bif (bif (bif (bif (p1.Kind==0) then true else (p1.Kind==a3.Kind)) then (bif (sEq p1.Name (⟨#[]⟩:ByteArray)) then true else (sEq p1.Name (F2 a1))) else false) then (decide ((F3 a1)≥p1.From)) else false) then (decide ((F3 a1)≤p1.To)) else false) then ((apd 8 a2 ([a0])).bind fun a6 =>
  De a0 k2 a6) else (De a0 k2 a2))) else (My a2)
def F9 (p1:volume_Query) (y6:((List volume_Item)×Int×Int)):Nat→Int→(List Int)→Option ((List Int)×Int)
  | 0,_,_=>none
  | n+1,a1,a0=>Mx p1 y6 (F9 p1 y6 n) a1 a0
def Pg (F:Nat) (p0:(List Int)) (p1:volume_Query):Option ((List Int)×Int) :=
  bif (bif (decide (p1.Kind<0)) then true else (decide (p1.Kind>3))) then (some (([]:(List Int)),2)) else (bif (decide (p1.From>p1.To)) then (some (([]:(List Int)),3)) else ((C9 F p0).bind fun y6 =>
  bif (y6.2.2 != 0) then (some (([]:(List Int)),y6.2.2)) else (F9 p1 y6 F 0 ([]))))
def Jb (p0:ref12_Item):ByteArray :=
  bif (p0.Kind==1) then (p0.Sweep.Site.Name) else (p0.Name)
def Ny (a0:(List Int)):Option ((List Int)×Int) :=
  some (a0,0)
def Fz (a1:Int) (k2:(Int→(List Int)→Option ((List Int)×Int))) (a0:(List Int)):Option ((List Int)×Int) :=
  (ck (a1+1)).bind fun a2 =>
  k2 a2 a0
def Kd (p1:ref12_Query) (y6:((List ref12_Item)×Int×Int)) (k2:(Int→(List Int)→Option ((List Int)×Int))) (a0:Int) (a1:(List Int)):Option ((List Int)×Int) :=
  bif (decide (a0<((y6.1.length:Nat):Int))) then ((Bh y6.1 a0).bind fun a3 =>
  (Bh y6.1 a0).bind fun a4 =>
  (Bh y6.1 a0).bind fun a5 =>
  bif (bif (bif (bif (p1.Kind==0) then true else (a3.Kind==p1.Kind)) then (bif (sEq p1.Name (⟨#[]⟩:ByteArray)) then true else (sEq (Jb a4) p1.Name)) else false) then (Ad (Ed a5) p1.From p1.To) else false) then ((apd 8 a1 ([a0])).bind fun a2 =>
  Fz a0 k2 a2) else (Fz a0 k2 a1)) else (Ny a1)
def J6 (p1:ref12_Query) (y6:((List ref12_Item)×Int×Int)):Nat→Int→(List Int)→Option ((List Int)×Int)
  | 0,_,_=>none
  | n+1,a1,a0=>Kd p1 y6 (J6 p1 y6 n) a1 a0
def Qm (F:Nat) (p0:(List Int)) (p1:ref12_Query):Option ((List Int)×Int) :=
  bif (!(Ad p1.Kind 0 3)) then (some (([]:(List Int)),2)) else (bif (decide (p1.From>p1.To)) then (some (([]:(List Int)),3)) else ((Fq F p0).bind fun y6 =>
  bif (y6.2.2 != 0) then (some (([]:(List Int)),y6.2.2)) else (J6 p1 y6 F 0 ([]))))
def Ni:Option Bool :=
  some true
def Le (p0:(List Int)) (p1:(List Int)) (k2:(Int→Option Bool)) (a0:Int):Option Bool :=
  bif (decide (a0<((p0.length:Nat):Int))) then ((Bh p0 a0).bind fun a1 =>
  (Bh p1 a0).bind fun a2 =>
  bif (a1 != a2) then (some false) else ((ck (a0+1)).bind fun a3 =>
  k2 a3)) else (Ni)
def H3 (p0:(List Int)) (p1:(List Int)):Nat→Int→Option Bool
  | 0,_=>none
  | n+1,a0=>Le p0 p1 (H3 p0 p1 n) a0
def Nu (F:Nat) (p0:(List Int)) (p1:(List Int)):Option Bool :=
  bif (((p0.length:Nat):Int) != ((p1.length:Nat):Int)) then (some false) else (H3 p0 p1 F 0)
def Hu (F:Nat) (p0:(List Int)) (p1:(List Int)) (p2:ref12_Query):Option Bool :=
  bif (bif (decide (((p0.length:Nat):Int)>2000)) then true else (decide (((p1.length:Nat):Int)>2000))) then ((Kw F).bind fun y8 =>
  some y8) else ((Gz F p0 p1).bind fun a2 =>
  (L1 F p0 p1).bind fun a3 =>
  (Kv F a2.1 a3.1).bind fun a5 =>
  bif (bif (!a5) then true else (a2.2 != a3.2)) then (some false) else ((Pg F p0 (volume_Query.mk p2.Kind p2.Name p2.From p2.To)).bind fun a0 =>
  (Qm F p0 p2).bind fun a1 =>
  (Nu F a0.1 a1.1).bind fun a4 =>
  (gd (((bif a4 then (a0.2==a1.2) else false)==true&&true)) (Kw F) default).bind fun a6 =>
  some (bif (bif a4 then (a0.2==a1.2) else false) then a6 else false)))
end Go.Proofs.YtifbomimeodibaaGreat
