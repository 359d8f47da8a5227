import Derived.Test.YtifbomimeodibaaGreatV6EB
namespace Go.Proofs.YtifbomimeodibaaGreat
open Go Go.RowKit Go.Eng
set_option maxRecDepth 10000
set_option maxHeartbeats 4000000
set_option linter.unusedVariables false
set_option linter.unusedSimpArgs false
structure volume_reader where
  b:(List Int)
  deriving Inhabited,DecidableEq
structure api_Site where
  Name:ByteArray
  X:Int
  Y:Int
  Z:Int
  Rose:Int
  Gates:Int
  Step:Int
  Width:Int
  deriving Inhabited,DecidableEq
def api_Site.cells (x:api_Site):List Value:=[.string x.Name,.int .i64 x.X,.int .i64 x.Y,.int .i64 x.Z,.int .i64 x.Rose,.int .i64 x.Gates,.int .i64 x.Step,.int .i64 x.Width]
structure api_Span where
  Lo:Int
  Hi:Int
  deriving Inhabited,DecidableEq
def api_Span.cells (x:api_Span):List Value:=[.int .i64 x.Lo,.int .i64 x.Hi]
theorem api_Span.cells_len (x:api_Span):(api_Span.cells x).length=2:=rfl
structure api_Echo where
  Kind:Int
  Power:api_Span
  Steps:(api_Span×api_Span)
  Spread:Int
  Ratio:api_Span
  Match:api_Span
  Turn:api_Span
  deriving Inhabited,DecidableEq
def api_Echo.cells (x:api_Echo):List Value:=[.int .i64 x.Kind,.int .i64 x.Power.Lo,.int .i64 x.Power.Hi,.int .i64 x.Steps.1.Lo,.int .i64 x.Steps.1.Hi,.int .i64 x.Steps.2.Lo,.int .i64 x.Steps.2.Hi,.int .i64 x.Spread,.int .i64 x.Ratio.Lo,.int .i64 x.Ratio.Hi,.int .i64 x.Match.Lo,.int .i64 x.Match.Hi,.int .i64 x.Turn.Lo,.int .i64 x.Turn.Hi]
theorem api_Echo.cells_len (x:api_Echo):(api_Echo.cells x).length=14:=rfl
structure api_Grid where
  X:Int
  Y:Int
  Size:Int
  Wide:Int
  High:Int
  deriving Inhabited,DecidableEq
def api_Grid.cells (x:api_Grid):List Value:=[.int .i64 x.X,.int .i64 x.Y,.int .i64 x.Size,.int .i64 x.Wide,.int .i64 x.High]
structure api_Sweep where
  Site:api_Site
  Tilt:Int
  Time:Int
  Rays:(List (List api_Echo))
  deriving Inhabited,DecidableEq
structure volume_sweep where
  Sweep:api_Sweep
  deriving Inhabited,DecidableEq
structure api_Field where
  Grid:api_Grid
  Vals:(List api_Span)
  deriving Inhabited,DecidableEq
structure volume_field where
  key:ByteArray
  time:Int
  Field:api_Field
  deriving Inhabited,DecidableEq
structure volume_note where
  time:Int
  text:ByteArray
  deriving Inhabited,DecidableEq
def volume_note.cells (x:volume_note):List Value:=[.int .i64 x.time,.string x.text]
structure volume_Item where
  Kind:Int
  Name:ByteArray
  Time:Int
  Sweep:api_Sweep
  Field:api_Field
  Text:ByteArray
  deriving Inhabited,DecidableEq
structure volume_writer where
  b:(List Int)
  deriving Inhabited,DecidableEq
structure law12_Thing where
  Kind:Int
  Time:Int
  Sides:(Int×Int×Int)
  Numbers:(List Int)
  deriving Inhabited,DecidableEq
structure volume_entry where
  time:Int
  block:(List Int)
  deriving Inhabited,DecidableEq
abbrev api_Site.ar (x:api_Site):Array Value:=#[.string x.Name,.int .i64 x.X,.int .i64 x.Y,.int .i64 x.Z,.int .i64 x.Rose,.int .i64 x.Gates,.int .i64 x.Step,.int .i64 x.Width]
abbrev api_Site.ag (x:api_Site):Value:=.agg #[.string x.Name,.int .i64 x.X,.int .i64 x.Y,.int .i64 x.Z,.int .i64 x.Rose,.int .i64 x.Gates,.int .i64 x.Step,.int .i64 x.Width]
abbrev api_Echo.ar (x:api_Echo):Array Value:=#[.int .i64 x.Kind,.int .i64 x.Power.Lo,.int .i64 x.Power.Hi,.int .i64 x.Steps.1.Lo,.int .i64 x.Steps.1.Hi,.int .i64 x.Steps.2.Lo,.int .i64 x.Steps.2.Hi,.int .i64 x.Spread,.int .i64 x.Ratio.Lo,.int .i64 x.Ratio.Hi,.int .i64 x.Match.Lo,.int .i64 x.Match.Hi,.int .i64 x.Turn.Lo,.int .i64 x.Turn.Hi]
abbrev api_Echo.ag (x:api_Echo):Value:=.agg #[.int .i64 x.Kind,.int .i64 x.Power.Lo,.int .i64 x.Power.Hi,.int .i64 x.Steps.1.Lo,.int .i64 x.Steps.1.Hi,.int .i64 x.Steps.2.Lo,.int .i64 x.Steps.2.Hi,.int .i64 x.Spread,.int .i64 x.Ratio.Lo,.int .i64 x.Ratio.Hi,.int .i64 x.Match.Lo,.int .i64 x.Match.Hi,.int .i64 x.Turn.Lo,.int .i64 x.Turn.Hi]
abbrev api_Grid.ar (x:api_Grid):Array Value:=#[.int .i64 x.X,.int .i64 x.Y,.int .i64 x.Size,.int .i64 x.Wide,.int .i64 x.High]
abbrev api_Grid.ag (x:api_Grid):Value:=.agg #[.int .i64 x.X,.int .i64 x.Y,.int .i64 x.Size,.int .i64 x.Wide,.int .i64 x.High]
abbrev volume_Item.ax (x:volume_Item) (adg1_:Option Addr) (capg2_:Nat) (adg4_:Option Addr) (capg5_:Nat):Array Value:=#[.int .i64 x.Kind,.string x.Name,.int .i64 x.Time,.string x.Sweep.Site.Name,.int .i64 x.Sweep.Site.X,.int .i64 x.Sweep.Site.Y,.int .i64 x.Sweep.Site.Z,.int .i64 x.Sweep.Site.Rose,.int .i64 x.Sweep.Site.Gates,.int .i64 x.Sweep.Site.Step,.int .i64 x.Sweep.Site.Width,.int .i64 x.Sweep.Tilt,.int .i64 x.Sweep.Time,.slice adg1_ x.Sweep.Rays.length capg2_,.int .i64 x.Field.Grid.X,.int .i64 x.Field.Grid.Y,.int .i64 x.Field.Grid.Size,.int .i64 x.Field.Grid.Wide,.int .i64 x.Field.Grid.High,.slice adg4_ x.Field.Vals.length capg5_,.string x.Text]
abbrev api_Sweep.ax (x:api_Sweep) (adg1_:Option Addr) (capg2_:Nat):Array Value:=#[.string x.Site.Name,.int .i64 x.Site.X,.int .i64 x.Site.Y,.int .i64 x.Site.Z,.int .i64 x.Site.Rose,.int .i64 x.Site.Gates,.int .i64 x.Site.Step,.int .i64 x.Site.Width,.int .i64 x.Tilt,.int .i64 x.Time,.slice adg1_ x.Rays.length capg2_]
abbrev volume_field.ax (x:volume_field) (adg1_:Option Addr) (capg2_:Nat):Array Value:=#[.string x.key,.int .i64 x.time,.int .i64 x.Field.Grid.X,.int .i64 x.Field.Grid.Y,.int .i64 x.Field.Grid.Size,.int .i64 x.Field.Grid.Wide,.int .i64 x.Field.Grid.High,.slice adg1_ x.Field.Vals.length capg2_]
abbrev api_Field.ax (x:api_Field) (adg1_:Option Addr) (capg2_:Nat):Array Value:=#[.int .i64 x.Grid.X,.int .i64 x.Grid.Y,.int .i64 x.Grid.Size,.int .i64 x.Grid.Wide,.int .i64 x.Grid.High,.slice adg1_ x.Vals.length capg2_]
abbrev law12_Thing.ax (x:law12_Thing) (adg1_:Option Addr) (capg2_:Nat):Array Value:=#[.int .u8 x.Kind,.int .u32 x.Time,.int .u8 x.Sides.1,.int .u8 x.Sides.2.1,.int .u8 x.Sides.2.2,.slice adg1_ x.Numbers.length capg2_]
abbrev api_Site.e0 (x:api_Site):Bool:=((x.Name==ByteArray.empty)&&(((x.X:Int)==0)&&(((x.Y:Int)==0)&&(((x.Z:Int)==0)&&(((x.Rose:Int)==0)&&(((x.Gates:Int)==0)&&(((x.Step:Int)==0)&&(((x.Width:Int)==0)&&true))))))))
abbrev api_Echo.e0 (x:api_Echo):Bool:=(((x.Kind:Int)==0)&&(((x.Power.Lo:Int)==0)&&(((x.Power.Hi:Int)==0)&&(((x.Steps.1.Lo:Int)==0)&&(((x.Steps.1.Hi:Int)==0)&&(((x.Steps.2.Lo:Int)==0)&&(((x.Steps.2.Hi:Int)==0)&&(((x.Spread:Int)==0)&&(((x.Ratio.Lo:Int)==0)&&(((x.Ratio.Hi:Int)==0)&&(((x.Match.Lo:Int)==0)&&(((x.Match.Hi:Int)==0)&&(((x.Turn.Lo:Int)==0)&&(((x.Turn.Hi:Int)==0)&&true))))))))))))))
abbrev api_Grid.e0 (x:api_Grid):Bool:=(((x.X:Int)==0)&&(((x.Y:Int)==0)&&(((x.Size:Int)==0)&&(((x.Wide:Int)==0)&&(((x.High:Int)==0)&&true)))))
abbrev z48:Array Value:=#[.int .i64 0,.string ByteArray.empty,.int .i64 0,.string ByteArray.empty,.int .i64 0,.int .i64 0,.int .i64 0,.int .i64 0,.int .i64 0,.int .i64 0,.int .i64 0,.int .i64 0,.int .i64 0,.slice none 0 0,.int .i64 0,.int .i64 0,.int .i64 0,.int .i64 0,.int .i64 0,.slice none 0 0,.string ByteArray.empty]
abbrev A18:Array Value:=#[.int .i64 0,.int .i64 0,.int .i64 0,.int .i64 0,.int .i64 0,.int .i64 0,.int .i64 0,.int .i64 0,.int .i64 0,.int .i64 0,.int .i64 0,.int .i64 0,.int .i64 0,.int .i64 0]
abbrev z41:Array Value:=#[.string ByteArray.empty,.int .i64 0,.int .i64 0,.int .i64 0,.int .i64 0,.int .i64 0,.int .i64 0,.int .i64 0,.int .i64 0,.int .i64 0,.slice none 0 0]
abbrev z38:Array Value:=#[.string ByteArray.empty,.int .i64 0,.int .i64 0,.int .i64 0,.int .i64 0,.int .i64 0,.int .i64 0,.int .i64 0]
abbrev A5g:Array Value:=#[.string ByteArray.empty,.int .i64 0,.int .i64 0,.int .i64 0,.int .i64 0,.int .i64 0,.int .i64 0,.slice none 0 0]
abbrev z46:Array Value:=#[.int .i64 0,.int .i64 0,.int .i64 0,.int .i64 0,.int .i64 0,.slice none 0 0]
abbrev A5f:Array Value:=#[.int .u8 0,.int .u32 0,.int .u8 0,.int .u8 0,.int .u8 0,.slice none 0 0]
abbrev z43:Array Value:=#[.int .i64 0,.int .i64 0,.int .i64 0,.int .i64 0,.int .i64 0]
def Rp87:Rel (List api_Echo):=fun μ cs x=>∃(ad1:Option Addr) (cap2:Nat),cs=[.slice ad1 x.length cap2]∧ArrM μ 14 api_Echo.cells ad1 cap2 x
theorem Rp87.mono:Rel.Mono Rp87:=by
  intro μ ν cs x hle h;obtain ⟨ad1,cap2,rfl,f0⟩:=h;exact ⟨ad1,cap2,rfl,f0.mono hle⟩
theorem Rp87.one:Rel.One 1 Rp87:=by
  intro μ cs x h;obtain ⟨ad1,cap2,rfl,f0⟩:=h
  all_goals rfl
def Rp156:Rel volume_sweep:=fun μ cs x=>∃(ad1:Option Addr) (cap2:Nat) (css3:List (List Value)),cs=[.string x.Sweep.Site.Name,.int .i64 x.Sweep.Site.X,.int .i64 x.Sweep.Site.Y,.int .i64 x.Sweep.Site.Z,.int .i64 x.Sweep.Site.Rose,.int .i64 x.Sweep.Site.Gates,.int .i64 x.Sweep.Site.Step,.int .i64 x.Sweep.Site.Width,.int .i64 x.Sweep.Tilt,.int .i64 x.Sweep.Time,.slice ad1 x.Sweep.Rays.length cap2]∧ArrQ μ 1 Rp87 ad1 cap2 css3 x.Sweep.Rays
theorem Rp156.mono:Rel.Mono Rp156:=by
  intro μ ν cs x hle h;obtain ⟨ad1,cap2,css3,rfl,f0⟩:=h;exact ⟨ad1,cap2,css3,rfl,f0.mono Rp87.mono hle⟩
def Rp158:Rel volume_field:=fun μ cs x=>∃(ad1:Option Addr) (cap2:Nat),cs=[.string x.key,.int .i64 x.time,.int .i64 x.Field.Grid.X,.int .i64 x.Field.Grid.Y,.int .i64 x.Field.Grid.Size,.int .i64 x.Field.Grid.Wide,.int .i64 x.Field.Grid.High,.slice ad1 x.Field.Vals.length cap2]∧ArrM μ 2 api_Span.cells ad1 cap2 x.Field.Vals
theorem Rp158.mono:Rel.Mono Rp158:=by
  intro μ ν cs x hle h;obtain ⟨ad1,cap2,rfl,f0⟩:=h;exact ⟨ad1,cap2,rfl,f0.mono hle⟩
def Rp48:Rel volume_Item:=fun μ cs x=>∃(ad1:Option Addr) (cap2:Nat) (css3:List (List Value)) (ad4:Option Addr) (cap5:Nat),cs=[.int .i64 x.Kind,.string x.Name,.int .i64 x.Time,.string x.Sweep.Site.Name,.int .i64 x.Sweep.Site.X,.int .i64 x.Sweep.Site.Y,.int .i64 x.Sweep.Site.Z,.int .i64 x.Sweep.Site.Rose,.int .i64 x.Sweep.Site.Gates,.int .i64 x.Sweep.Site.Step,.int .i64 x.Sweep.Site.Width,.int .i64 x.Sweep.Tilt,.int .i64 x.Sweep.Time,.slice ad1 x.Sweep.Rays.length cap2,.int .i64 x.Field.Grid.X,.int .i64 x.Field.Grid.Y,.int .i64 x.Field.Grid.Size,.int .i64 x.Field.Grid.Wide,.int .i64 x.Field.Grid.High,.slice ad4 x.Field.Vals.length cap5,.string x.Text]∧ArrQ μ 1 Rp87 ad1 cap2 css3 x.Sweep.Rays∧ArrM μ 2 api_Span.cells ad4 cap5 x.Field.Vals
theorem Rp48.mono:Rel.Mono Rp48:=by
  intro μ ν cs x hle h;obtain ⟨ad1,cap2,css3,ad4,cap5,rfl,f0,f1⟩:=h;exact ⟨ad1,cap2,css3,ad4,cap5,rfl,f0.mono Rp87.mono hle,f1.mono hle⟩
theorem Rp48.one:Rel.One 21 Rp48:=by
  intro μ cs x h;obtain ⟨ad1,cap2,css3,ad4,cap5,rfl,f0,f1⟩:=h
  all_goals rfl
def Rp103:Rel law12_Thing:=fun μ cs x=>∃(ad1:Option Addr) (cap2:Nat),cs=[.int .u8 x.Kind,.int .u32 x.Time,.int .u8 x.Sides.1,.int .u8 x.Sides.2.1,.int .u8 x.Sides.2.2,.slice ad1 x.Numbers.length cap2]∧ArrM μ 1 (fK .i16) ad1 cap2 x.Numbers
theorem Rp103.mono:Rel.Mono Rp103:=by
  intro μ ν cs x hle h;obtain ⟨ad1,cap2,rfl,f0⟩:=h;exact ⟨ad1,cap2,rfl,f0.mono hle⟩
def Rp22:Rel (List Int):=fun μ cs x=>∃(ad1:Option Addr) (cap2:Nat),cs=[.slice ad1 x.length cap2]∧ArrM μ 1 (fK .u8) ad1 cap2 x
theorem Rp22.mono:Rel.Mono Rp22:=by
  intro μ ν cs x hle h;obtain ⟨ad1,cap2,rfl,f0⟩:=h;exact ⟨ad1,cap2,rfl,f0.mono hle⟩
def Rp109:Rel volume_entry:=fun μ cs x=>∃(ad1:Option Addr) (cap2:Nat),cs=[.int .i64 x.time,.slice ad1 x.block.length cap2]∧ArrM μ 1 (fK .u8) ad1 cap2 x.block
theorem Rp109.mono:Rel.Mono Rp109:=by
  intro μ ν cs x hle h;obtain ⟨ad1,cap2,rfl,f0⟩:=h;exact ⟨ad1,cap2,rfl,f0.mono hle⟩
theorem Rp109.one:Rel.One 2 Rp109:=by
  intro μ cs x h;obtain ⟨ad1,cap2,rfl,f0⟩:=h
  all_goals rfl
inductive volume_thing where
  | nil_
  | ic156 (x:volume_sweep)
  | ic158 (x:volume_field)
  | ic160 (x:volume_note)
  deriving Inhabited,DecidableEq
def volume_thing.cs {α:Type} (x:volume_thing) (a:α) (a0:volume_sweep→α) (a1:volume_field→α) (a2:volume_note→α):α:=match x with|.nil_=>a|.ic156 x=>a0 x|.ic158 x=>a1 x|.ic160 x=>a2 x 
theorem volume_thing.toNil {α:Type} {x:volume_thing} {a:α} {a0:volume_sweep→α} {a1:volume_field→α} {a2:volume_note→α} {z:α} (hq:x=.nil_) (h:x.cs a a0 a1 a2=z):a=z:=by subst hq;exact h
theorem volume_thing.to156 {α:Type} {x:volume_thing} {y:volume_sweep} {a:α} {a0:volume_sweep→α} {a1:volume_field→α} {a2:volume_note→α} {z:α} (hq:x=.ic156 y) (h:x.cs a a0 a1 a2=z):a0 y=z:=by subst hq;exact h
theorem volume_thing.to158 {α:Type} {x:volume_thing} {y:volume_field} {a:α} {a1:volume_sweep→α} {a0:volume_field→α} {a2:volume_note→α} {z:α} (hq:x=.ic158 y) (h:x.cs a a1 a0 a2=z):a0 y=z:=by subst hq;exact h
theorem volume_thing.to160 {α:Type} {x:volume_thing} {y:volume_note} {a:α} {a1:volume_sweep→α} {a2:volume_field→α} {a0:volume_note→α} {z:α} (hq:x=.ic160 y) (h:x.cs a a1 a2 a0=z):a0 y=z:=by subst hq;exact h
def volume_thing.R (μ:Frz) (v:Value) (x:volume_thing):Prop:=match x with|.nil_=>v=.nilIface|.ic156 y=>∃cs:List Value,v=.iface 156 (.agg cs.toArray)∧Rp156 μ cs y|.ic158 y=>∃cs:List Value,v=.iface 158 (.agg cs.toArray)∧Rp158 μ cs y|.ic160 y=>∃cs:List Value,v=.iface 160 (.agg cs.toArray)∧(RpF volume_note.cells) μ cs y 
theorem volume_thing.R.mono {μ ν:Frz} {v:Value} {x:volume_thing} (h:volume_thing.R μ v x) (hle:μ.le ν):volume_thing.R ν v x:=by
  cases x with
  | nil_=>exact h
  | ic156 y =>
    obtain ⟨cs,h1,h2⟩:=h;exact ⟨cs,h1,Rp156.mono _ _ _ _ hle h2⟩
  | ic158 y =>
    obtain ⟨cs,h1,h2⟩:=h;exact ⟨cs,h1,Rp158.mono _ _ _ _ hle h2⟩
  | ic160 y =>
    obtain ⟨cs,h1,h2⟩:=h;exact ⟨cs,h1,h2⟩
theorem volume_thing.R.one {μ:Frz} {v:Value} {x:volume_thing} (h:volume_thing.R μ v x):v.cells=#[v]∧v.oneCell'=true:=by
  cases x with
  | nil_=>obtain rfl:v=.nilIface:=h;exact ⟨rfl,rfl⟩
  | ic156 y=>obtain ⟨cs,rfl,_⟩:=h;exact ⟨rfl,rfl⟩
  | ic158 y=>obtain ⟨cs,rfl,_⟩:=h;exact ⟨rfl,rfl⟩
  | ic160 y=>obtain ⟨cs,rfl,_⟩:=h;exact ⟨rfl,rfl⟩
def B9 (p0:List Int) (p1:Int):Int:=A08 p0 p1
def G3 (p0:ByteArray):Bool:=A2o p0
def Ja:List Int→List Int→Int
  | [],[]=>0
  | [],_::_=>-1
  | _::_,[]=>1
  | x::a,y::b=>if x<y then -1 else if y<x then 1 else Ja a b
def enB (s:volume_entry):Prop:=(-4000000000000000000≤s.time∧s.time≤4000000000000000000)∧∀x∈s.block,0≤x∧x<256
instance (s:volume_entry):Decidable (enB s):=by unfold enB;infer_instance
def Cs (x y:volume_entry):Int:=if x.time=y.time then Ja x.block y.block else x.time-y.time
def Hl (F:Nat) (p0:List volume_entry):Option (List volume_entry) :=
  if (∀s∈p0,enB s)∧p0.length<4611686018427387904 then some (p0.mergeSort fun x y=>decide (Cs x y≤0)) else none
def Q7:volume_entry→List volume_entry→List volume_entry
  | _,[]=>[]
  | p,x::xs=>if x.block=p.block then Q7 x xs else x::Q7 x xs
def Yu:List volume_entry→List volume_entry
  | []=>[]
  | x::xs=>x::Q7 x xs
def G2 (F:Nat) (p0:List volume_entry):Option (List volume_entry) :=
  if (∀s∈p0,enB s)∧p0.length<4611686018427387904 then some (Yu p0) else none
def Fv (p0:(List Int)) (p1:(List Int)):Bool :=
  sEq (bst p0) (bst p1)
def H6 (F:Nat) (p0:(List Int)) (p1:(List Int)):Option Bool :=
  bif (decide (((p0.length:Nat):Int)≥((p1.length:Nat):Int))) then ((Jl p0 (0:Int) ((p1.length:Nat):Int)).bind fun l8 =>
  some (Fv l8 p1)) else (some false)
def Fh {σ:Type} (body:(σ→(Int×(List Int))→Option (σ×Bool))) (c0_:(List Int)) (k1:(Int→σ→Option (σ×Bool))) (a0:Int) (a4:σ):Option (σ×Bool) :=
  bif (bif (decide (a0≥0)) then (decide (a0<((c0_.length:Nat):Int))) else false) then ((ck (a0+1)).bind fun a7 =>
  (Jl c0_ a7 ((c0_.length:Nat):Int)).bind fun a1 =>
  bif (decide ((B9 a1 0)<0)) then ((ck (a0+1)).bind fun a8 =>
  (Jl c0_ a8 ((c0_.length:Nat):Int)).bind fun a5 =>
  (body a4 (a0,a5)).bind fun a2 =>
  bif a2.2 then (some (a2.1,true)) else (some (a2.1,false))) else ((ck (a0+1)).bind fun a9 =>
  (ck (a0+1)).bind fun aA =>
  (ck (aA+(B9 a1 0))).bind fun aB =>
  (Jl c0_ a9 aB).bind fun a6 =>
  (body a4 (a0,a6)).bind fun a3 =>
  bif a3.2 then ((ck (1+(B9 a1 0))).bind fun aC =>
  (ck (a0+aC)).bind fun aD =>
  k1 aD a3.1) else (some (a3.1,false)))) else (some (a4,true))
def Dj {σ:Type} (body:(σ→(Int×(List Int))→Option (σ×Bool))) (c0_:(List Int)):Nat→Int→σ→Option (σ×Bool)
  | 0,_,_=>none
  | n+1,a1,a0=>Fh body c0_ (Dj body c0_ n) a1 a0
def Eo {σ:Type} (F:Nat) (c0_:(List Int)) (body:σ→(Int×(List Int))→Option (σ×Bool)) (s_:σ):Option (σ×Bool) :=
  Dj body c0_ F (B9 c0_ 0) s_
def Q2 (p0:(List Int)):Unit :=
  ()
def E8 (p0:volume_reader):Option (Except (Value×volume_reader) (Int×volume_reader)) :=
  some (.error (.iface 128 (.int .i64 7),p0))
def E9 (a2:Int) (a3:Int) (a0:Int) (k2:(Int→Int→Int→Option (Except (Value×volume_reader) (Int×volume_reader)))) (a1:Int):Option (Except (Value×volume_reader) (Int×volume_reader)) :=
  (ck a1).bind fun a4 =>
  (ck (a4-128)).bind fun a5 =>
  (ck (a5*a0)).bind fun a6 =>
  (ck (a3+a6)).bind fun a7 =>
  (ck (a0*127)).bind fun a8 =>
  (ck (a2+1)).bind fun a9 =>
  k2 a9 a7 a8
def E7 (p0:volume_reader) (a2:(List Int)) (k2:(Int→Int→Int→Option (Except (Value×volume_reader) (Int×volume_reader)))) (a1:Int) (a3:Int) (a4:Int):Option (Except (Value×volume_reader) (Int×volume_reader)) :=
  bif (decide (a1<((a2.length:Nat):Int))) then ((Dg a2 a1).bind fun a0 =>
  bif (bif (bif (a0==0) then true else (a0==255)) then true else (bif (a0==1) then (decide (a1>0)) else false)) then (some (.error (.iface 128 (.int .i64 7),p0))) else (bif (decide (a0<128)) then ((ck (a1+1)).bind fun a6 =>
  (Jl p0.b a6 ((p0.b.length:Nat):Int)).bind fun a5 =>
  (ck a0).bind fun a7 =>
  (ck (a7-1)).bind fun a8 =>
  (ck (a8*a4)).bind fun a9 =>
  (ck (a3+a9)).bind fun aA =>
  some (.ok (aA,(volume_reader.mk a5)))) else (E9 a1 a3 a4 k2 a0))) else (E8 p0)
def Ba (p0:volume_reader) (a0:(List Int)):Nat→Int→Int→Int→Option (Except (Value×volume_reader) (Int×volume_reader))
  | 0,_,_,_=>none
  | n+1,a1,a2,a3=>E7 p0 a0 (Ba p0 a0 n) a1 a2 a3
def Ab (F:Nat) (p0:volume_reader):Option (Except (Value×volume_reader) (Int×volume_reader)) :=
  (Jl p0.b (0:Int) (if 8<((p0.b.length:Nat):Int) then 8 else ((p0.b.length:Nat):Int))).bind fun a0 =>
  Ba p0 a0 F 0 0 1
def Cj (F:Nat) (p0:volume_reader):Option (Int×Bool×volume_reader) :=
  (Ab F p0).bind fun y5 =>
  exc y5 (fun e7=>(asI 128 .i64 e7.1).bind fun a0 =>
  some (0,false,(volume_reader.mk e7.2.b))) fun y6 =>
  some (y6.1,true,(volume_reader.mk y6.2.b))
def La (a0:(List Int)):Option (List Int) :=
  (Dg a0 4).bind fun a2 =>
  (Dg a0 4).bind fun a3 =>
  (Vi a0 4 (IntKind.u8.wrap (a2-127))).bind fun a1 =>
  some a1
def Jf (k3:(Int→Int→Int→(List Int)→Option (List Int))) (a2:Int) (a0:Int) (a3:Int) (a1:(List Int)):Option (List Int) :=
  bif (decide (a0<a2)) then ((Ju a3 127).bind fun a5 =>
  (ck (128+a5)).bind fun a6 =>
  (Dg a1 a0).bind fun a9 =>
  (Vi a1 a0 (IntKind.u8.wrap a6)).bind fun a4 =>
  (Ni a3 127).bind fun a7 =>
  (ck (a0+1)).bind fun a8 =>
  k3 a2 a8 a7 a4) else (La a1)
def Ee:Nat→Int→Int→Int→(List Int)→Option (List Int)
  | 0,_,_,_,_=>none
  | n+1,a1,a2,a3,a0=>Jf (Ee n) a1 a2 a3 a0
def L9 (F:Nat) (a1:Int):Option (List Int) :=
  (mkI 1 5 0).bind fun a0 =>
  Ee F ((a0.length:Nat):Int) 0 a1 a0
def L8 (F:Nat) (p0:(List Int)) (k4:(Int→Int→Option (List Int))) (a0:Int) (a1:Int):Option (List Int) :=
  bif (decide (a0<((p0.length:Nat):Int))) then ((Dg p0 a0).bind fun a2 =>
  (ck (31*a1)).bind fun a3 =>
  (ck a2).bind fun a4 =>
  (ck (a3+a4)).bind fun a5 =>
  (Ju a5 2147483647).bind fun a6 =>
  (ck (a0+1)).bind fun a7 =>
  k4 a7 a6) else (L9 F a1)
def Hf (F:Nat) (p0:(List Int)):Nat→Int→Int→Option (List Int)
  | 0,_,_=>none
  | n+1,a0,a1=>L8 F p0 (Hf F p0 n) a0 a1
def Jm (F:Nat) (p0:(List Int)):Option (List Int) :=
  Hf F p0 F 0 1
def Gv (F:Nat) (p0:Int):Option (Except Value Unit) :=
  bif (p0 != 0) then (some (.error (.iface 128 (.int .i64 7)))) else (some (.ok ()))
def Ex (y5:(Int×volume_reader)):Option (Except (Value×volume_reader) (ByteArray×volume_reader)) :=
  (Jl y5.2.b (0:Int) y5.1).bind fun a0 =>
  (Jl y5.2.b y5.1 ((y5.2.b.length:Nat):Int)).bind fun a1 =>
  some (.ok ((bst a0),(volume_reader.mk a1)))
def D4 (F:Nat) (p0:volume_reader):Option (Except (Value×volume_reader) (ByteArray×volume_reader)) :=
  (Ab F p0).bind fun y4 =>
  exc y4 (fun e6=>some (.error (e6.1,(volume_reader.mk e6.2.b)))) fun y5 =>
  bif (decide (y5.1>((y5.2.b.length:Nat):Int))) then (some (.error (.iface 128 (.int .i64 7),(volume_reader.mk y5.2.b)))) else (Ex y5)
def Bf (F:Nat) (p0:volume_reader):Option (Except (Value×volume_reader) (Int×volume_reader)) :=
  (Ab F p0).bind fun y4 =>
  exc y4 (fun e6=>some (.error (e6.1,(volume_reader.mk e6.2.b)))) fun y5 =>
  (Ju y5.1 2).bind fun a0 =>
  bif (a0==1) then ((ck (y5.1+1)).bind fun a1 =>
  (Ni (IntKind.i64.wrap (0-a1)) 2).bind fun a2 =>
  some (.ok (a2,(volume_reader.mk y5.2.b)))) else ((Ni y5.1 2).bind fun a3 =>
  some (.ok (a3,(volume_reader.mk y5.2.b))))
def Ly (F:Nat) (p0:ByteArray):Option Bool :=
  (gd (((bif (!(sEq p0 (⟨#[]⟩:ByteArray))) then (decide (((p0.size:Nat):Int)≤12)) else false)==true&&true)) (U8 p0 (0:Int)) default).bind fun u1 =>
  (gd (((bif (bif (!(sEq p0 (⟨#[]⟩:ByteArray))) then (decide (((p0.size:Nat):Int)≤12)) else false) then (decide (u1≥97)) else false)==true&&true)) (U8 p0 (0:Int)) default).bind fun u2 =>
  some (bif (bif (bif (bif (!(sEq p0 (⟨#[]⟩:ByteArray))) then (decide (((p0.size:Nat):Int)≤12)) else false) then (decide (u1≥97)) else false) then (decide (u2≤122)) else false) then (!(G3 p0)) else false)
def Ah (p0:Int) (p1:Int) (p2:Int):Bool :=
  bif (decide (p1≤p0)) then (decide (p0≤p2)) else false
def Du (c4:Bool):Option Int :=
  bif c4 then (some 3) else (some 0)
def Ej (p0:api_Site) (c3:Bool):Option Int :=
  bif c3 then (some 3) else (bif (!(Ah p0.Rose 1 90)) then (Du (!(Ah p0.Rose 1 90))) else (bif (!(Ah p0.Gates 1 200)) then (Du (!(Ah p0.Gates 1 200))) else (bif (!(Ah p0.Step 50 2000)) then (Du (!(Ah p0.Step 50 2000))) else (Du (!(Ah p0.Width 0 8))))))
def Gk (F:Nat) (p0:api_Site):Option Int :=
  (Ly F p0.Name).bind fun y2 =>
  bif (!y2) then (some 10) else (bif (!(Ah p0.X (-1048576) 1048576)) then (Ej p0 (!(Ah p0.X (-1048576) 1048576))) else (bif (!(Ah p0.Y (-1048576) 1048576)) then (Ej p0 (!(Ah p0.Y (-1048576) 1048576))) else (Ej p0 (!(Ah p0.Z 0 20000)))))
def Be (F:Nat) (p0:volume_reader):Option (Except (Value×volume_reader) (api_Span×volume_reader)) :=
  (Bf F p0).bind fun y5 =>
  exc y5 (fun e7=>some (.error (e7.1,(volume_reader.mk e7.2.b)))) fun y6 =>
  (Ab F (volume_reader.mk y6.2.b)).bind fun a3 =>
  exc a3 (fun a0=>some (.error (a0.1,(volume_reader.mk a0.2.b)))) fun a1 =>
  (ck (y6.1+a1.1)).bind fun a2 =>
  some (.ok ((api_Span.mk y6.1 a2),(volume_reader.mk a1.2.b)))
def Ev (F:Nat) (p0:volume_reader):Option (Except (Value×volume_reader) (api_Echo×volume_reader)) :=
  (Ab F p0).bind fun y5 =>
  exc y5 (fun e7=>some (.error (e7.1,(volume_reader.mk e7.2.b)))) fun y6 =>
  bif (y6.1==1) then ((Ab F (volume_reader.mk y6.2.b)).bind fun aI =>
  exc aI (fun a9=>some (.error (a9.1,(volume_reader.mk a9.2.b)))) fun aF =>
  some (.ok ((api_Echo.mk y6.1 (api_Span.mk 0 aF.1) ((api_Span.mk 0 0),(api_Span.mk 0 0)) 0 (api_Span.mk 0 0) (api_Span.mk 0 0) (api_Span.mk 0 0)),(volume_reader.mk aF.2.b)))) else ((Be F (volume_reader.mk y6.2.b)).bind fun aJ =>
  exc aJ (fun aA=>some (.error (aA.1,(volume_reader.mk aA.2.b)))) fun a0 =>
  (Be F (volume_reader.mk a0.2.b)).bind fun aK =>
  exc aK (fun aB=>some (.error (aB.1,(volume_reader.mk aB.2.b)))) fun a1 =>
  (Be F (volume_reader.mk a1.2.b)).bind fun aL =>
  exc aL (fun aC=>some (.error (aC.1,(volume_reader.mk aC.2.b)))) fun a2 =>
  (Ab F (volume_reader.mk a2.2.b)).bind fun aM =>
  exc aM (fun aD=>some (.error (aD.1,(volume_reader.mk aD.2.b)))) fun a3 =>
  bif (y6.1==3) then ((Be F (volume_reader.mk a3.2.b)).bind fun aN =>
  exc aN (fun aE=>some (.error (aE.1,(volume_reader.mk aE.2.b)))) fun a6 =>
  (Be F (volume_reader.mk a6.2.b)).bind fun aG =>
  exc aG (fun a7=>some (.error (a7.1,(volume_reader.mk a7.2.b)))) fun a4 =>
  (Be F (volume_reader.mk a4.2.b)).bind fun aH =>
  exc aH (fun a8=>some (.error (a8.1,(volume_reader.mk a8.2.b)))) fun a5 =>
  some (.ok ((api_Echo.mk y6.1 (api_Span.mk a0.1.Lo a0.1.Hi) ((api_Span.mk a6.1.Lo a6.1.Hi),(api_Span.mk a4.1.Lo a4.1.Hi)) a3.1 (api_Span.mk a1.1.Lo a1.1.Hi) (api_Span.mk a2.1.Lo a2.1.Hi) (api_Span.mk a5.1.Lo a5.1.Hi)),(volume_reader.mk a5.2.b)))) else (some (.ok ((api_Echo.mk y6.1 (api_Span.mk a0.1.Lo a0.1.Hi) ((api_Span.mk 0 0),(api_Span.mk 0 0)) a3.1 (api_Span.mk a1.1.Lo a1.1.Hi) (api_Span.mk a2.1.Lo a2.1.Hi) (api_Span.mk 0 0)),(volume_reader.mk a3.2.b)))))
def D7 (c2:Bool):Int :=
  bif c2 then (3) else (0)
def Bl (p0:api_Grid):Int :=
  bif (!(Ah p0.X (-1048576) 1048576)) then (D7 (!(Ah p0.X (-1048576) 1048576))) else (bif (!(Ah p0.Y (-1048576) 1048576)) then (D7 (!(Ah p0.Y (-1048576) 1048576))) else (bif (!(Ah p0.Size 1 10000)) then (D7 (!(Ah p0.Size 1 10000))) else (bif (!(Ah p0.Wide 1 64)) then (D7 (!(Ah p0.Wide 1 64))) else (D7 (!(Ah p0.High 1 64))))))
def Bp (a2:Int) (a3:Int) (a4:Int) (a5:Int) (a6:Int) (a7:Int) (a8:Int) (a9:Int) (aA:Int) (aB:Int) (aC:Int) (aD:Int) (aE:Int) (aF:Int) (a0:(List Int)) (a1:(List api_Echo)):Option (Except (Value×volume_reader) ((List api_Echo)×volume_reader)) :=
  some (.ok (a1,(volume_reader.mk a0)))
def Cm (k2:(Int→Int→Int→Int→Int→Int→Int→Int→Int→Int→Int→Int→Int→Int→(List Int)→(List api_Echo)→Option (Except (Value×volume_reader) ((List api_Echo)×volume_reader)))) (a1:(List api_Echo)) (a0:(api_Echo×volume_reader)):Option (Except (Value×volume_reader) ((List api_Echo)×volume_reader)) :=
  (apd 112 a1 ([(api_Echo.mk a0.1.Kind (api_Span.mk a0.1.Power.Lo a0.1.Power.Hi) ((api_Span.mk a0.1.Steps.1.Lo a0.1.Steps.1.Hi),(api_Span.mk a0.1.Steps.2.Lo a0.1.Steps.2.Hi)) a0.1.Spread (api_Span.mk a0.1.Ratio.Lo a0.1.Ratio.Hi) (api_Span.mk a0.1.Match.Lo a0.1.Match.Hi) (api_Span.mk a0.1.Turn.Lo a0.1.Turn.Hi))])).bind fun a2 =>
  k2 a0.1.Kind a0.1.Power.Lo a0.1.Match.Lo a0.1.Match.Hi a0.1.Turn.Lo a0.1.Turn.Hi a0.1.Power.Hi a0.1.Steps.1.Lo a0.1.Steps.1.Hi a0.1.Steps.2.Lo a0.1.Steps.2.Hi a0.1.Spread a0.1.Ratio.Lo a0.1.Ratio.Hi a0.2.b a2
def Bq (F:Nat) (p1:Int) (a3:Int) (a4:Int) (a5:Int) (a6:Int) (a7:Int) (a8:Int) (a9:Int) (aA:Int) (aB:Int) (aC:Int) (aD:Int) (aE:Int) (aF:Int) (aG:Int) (k2:(Int→Int→Int→Int→Int→Int→Int→Int→Int→Int→Int→Int→Int→Int→(List Int)→(List api_Echo)→Option (Except (Value×volume_reader) ((List api_Echo)×volume_reader)))) (aH:(Int×volume_reader)) (a1:(List api_Echo)):Option (Except (Value×volume_reader) ((List api_Echo)×volume_reader)) :=
  bif (decide (((a1.length:Nat):Int)<p1)) then ((Ev F (volume_reader.mk aH.2.b)).bind fun aI =>
  exc aI (fun a2=>some (.error (a2.1,(volume_reader.mk a2.2.b)))) fun a0 =>
  bif (((a0.1.Kind:Int)==a3)&&((((a0.1.Power.Lo:Int)==a4)&&(((a0.1.Power.Hi:Int)==a9)&&true))&&(((((a0.1.Steps.1.Lo:Int)==aA)&&(((a0.1.Steps.1.Hi:Int)==aB)&&true))&&((((a0.1.Steps.2.Lo:Int)==aC)&&(((a0.1.Steps.2.Hi:Int)==aD)&&true))&&true))&&(((a0.1.Spread:Int)==aE)&&((((a0.1.Ratio.Lo:Int)==aF)&&(((a0.1.Ratio.Hi:Int)==aG)&&true))&&((((a0.1.Match.Lo:Int)==a5)&&(((a0.1.Match.Hi:Int)==a6)&&true))&&((((a0.1.Turn.Lo:Int)==a7)&&(((a0.1.Turn.Hi:Int)==a8)&&true))&&true))))))) then (some (.error (.iface 128 (.int .i64 7),(volume_reader.mk a0.2.b)))) else (Cm k2 a1 a0)) else (k2 a3 a4 a5 a6 a7 a8 a9 aA aB aC aD aE aF aG aH.2.b a1)
def Ck (F:Nat) (p1:Int) (a1:Int) (a2:Int) (a3:Int) (a4:Int) (a5:Int) (a6:Int) (a7:Int) (a8:Int) (a9:Int) (aA:Int) (aB:Int) (aC:Int) (aD:Int) (aE:Int) (k2:(Int→Int→Int→Int→Int→Int→Int→Int→Int→Int→Int→Int→Int→Int→(List Int)→(List api_Echo)→Option (Except (Value×volume_reader) ((List api_Echo)×volume_reader)))) (aG:(Int×volume_reader)) (k6:(Int→(List api_Echo)→Option (Except (Value×volume_reader) ((List api_Echo)×volume_reader)))) (aF:Int) (a0:(List api_Echo)):Option (Except (Value×volume_reader) ((List api_Echo)×volume_reader)) :=
  bif (decide (aF<aG.1)) then ((apd 112 a0 ([(api_Echo.mk a1 (api_Span.mk a2 a7) ((api_Span.mk a8 a9),(api_Span.mk aA aB)) aC (api_Span.mk aD aE) (api_Span.mk a3 a4) (api_Span.mk a5 a6))])).bind fun aH =>
  (ck (aF+1)).bind fun aI =>
  k6 aI aH) else (Bq F p1 a1 a2 a3 a4 a5 a6 a7 a8 a9 aA aB aC aD aE k2 aG a0)
def B4 (F:Nat) (p1:Int) (a0:Int) (a1:Int) (a2:Int) (a3:Int) (a4:Int) (a5:Int) (a6:Int) (a7:Int) (a8:Int) (a9:Int) (aA:Int) (aB:Int) (aC:Int) (aD:Int) (k2:(Int→Int→Int→Int→Int→Int→Int→Int→Int→Int→Int→Int→Int→Int→(List Int)→(List api_Echo)→Option (Except (Value×volume_reader) ((List api_Echo)×volume_reader)))) (aE:(Int×volume_reader)):Nat→Int→(List api_Echo)→Option (Except (Value×volume_reader) ((List api_Echo)×volume_reader))
  | 0,_,_=>none
  | n+1,aG,aF=>Ck F p1 a0 a1 a2 a3 a4 a5 a6 a7 a8 a9 aA aB aC aD k2 aE (B4 F p1 a0 a1 a2 a3 a4 a5 a6 a7 a8 a9 aA aB aC aD k2 aE n) aG aF
def Cl (F:Nat) (p1:Int) (a1:Int) (a2:Int) (a3:Int) (a4:Int) (a5:Int) (a6:Int) (a7:Int) (a8:Int) (a9:Int) (aA:Int) (aB:Int) (aC:Int) (aD:Int) (aE:Int) (a0:(List api_Echo)) (k2:(Int→Int→Int→Int→Int→Int→Int→Int→Int→Int→Int→Int→Int→Int→(List Int)→(List api_Echo)→Option (Except (Value×volume_reader) ((List api_Echo)×volume_reader)))) (aF:(Int×volume_reader)):Option (Except (Value×volume_reader) ((List api_Echo)×volume_reader)) :=
  B4 F p1 a1 a2 a3 a4 a5 a6 a7 a8 a9 aA aB aC aD aE k2 aF F 0 a0
def Bo (F:Nat) (p1:Int) (k2:(Int→Int→Int→Int→Int→Int→Int→Int→Int→Int→Int→Int→Int→Int→(List Int)→(List api_Echo)→Option (Except (Value×volume_reader) ((List api_Echo)×volume_reader)))) (a4:Int) (a5:Int) (a6:Int) (a7:Int) (a8:Int) (a9:Int) (aA:Int) (aB:Int) (aC:Int) (aD:Int) (aE:Int) (aF:Int) (aG:Int) (aH:Int) (a3:(List Int)) (a0:(List api_Echo)):Option (Except (Value×volume_reader) ((List api_Echo)×volume_reader)) :=
  bif (decide (((a0.length:Nat):Int)<p1)) then ((Ab F (volume_reader.mk a3)).bind fun aJ =>
  exc aJ (fun a2=>some (.error (a2.1,(volume_reader.mk a2.2.b)))) fun a1 =>
  (ck (p1-((a0.length:Nat):Int))).bind fun aI =>
  bif (decide (a1.1>aI)) then (some (.error (.iface 128 (.int .i64 7),(volume_reader.mk a1.2.b)))) else (Cl F p1 a4 a5 a6 a7 a8 a9 aA aB aC aD aE aF aG aH a0 k2 a1)) else (Bp a4 a5 a6 a7 a8 a9 aA aB aC aD aE aF aG aH a3 a0)
def Ay (F:Nat) (p1:Int):Nat→Int→Int→Int→Int→Int→Int→Int→Int→Int→Int→Int→Int→Int→Int→(List Int)→(List api_Echo)→Option (Except (Value×volume_reader) ((List api_Echo)×volume_reader))
  | 0,_,_,_,_,_,_,_,_,_,_,_,_,_,_,_,_=>none
  | n+1,a2,a3,a4,a5,a6,a7,a8,a9,aA,aB,aC,aD,aE,aF,a0,a1=>Bo F p1 (Ay F p1 n) a2 a3 a4 a5 a6 a7 a8 a9 aA aB aC aD aE aF a0 a1
def C1 (F:Nat) (p0:volume_reader) (p1:Int) (p2:api_Echo):Option (Except (Value×volume_reader) ((List api_Echo)×volume_reader)) :=
  Ay F p1 F p2.Kind p2.Power.Lo p2.Match.Lo p2.Match.Hi p2.Turn.Lo p2.Turn.Hi p2.Power.Hi p2.Steps.1.Lo p2.Steps.1.Hi p2.Steps.2.Lo p2.Steps.2.Hi p2.Spread p2.Ratio.Lo p2.Ratio.Hi p0.b ([])
def Bs (a2:Int) (a3:Int) (a0:(List Int)) (a1:(List api_Span)):Option (Except (Value×volume_reader) ((List api_Span)×volume_reader)) :=
  some (.ok (a1,(volume_reader.mk a0)))
def Cp (k2:(Int→Int→(List Int)→(List api_Span)→Option (Except (Value×volume_reader) ((List api_Span)×volume_reader)))) (a1:(List api_Span)) (a0:(api_Span×volume_reader)):Option (Except (Value×volume_reader) ((List api_Span)×volume_reader)) :=
  (apd 16 a1 ([(api_Span.mk a0.1.Lo a0.1.Hi)])).bind fun a2 =>
  k2 a0.1.Lo a0.1.Hi a0.2.b a2
def Bt (F:Nat) (p1:Int) (a3:Int) (a4:Int) (k2:(Int→Int→(List Int)→(List api_Span)→Option (Except (Value×volume_reader) ((List api_Span)×volume_reader)))) (a5:(Int×volume_reader)) (a1:(List api_Span)):Option (Except (Value×volume_reader) ((List api_Span)×volume_reader)) :=
  bif (decide (((a1.length:Nat):Int)<p1)) then ((Be F (volume_reader.mk a5.2.b)).bind fun a6 =>
  exc a6 (fun a2=>some (.error (a2.1,(volume_reader.mk a2.2.b)))) fun a0 =>
  bif (((a0.1.Lo:Int)==a3)&&(((a0.1.Hi:Int)==a4)&&true)) then (some (.error (.iface 128 (.int .i64 7),(volume_reader.mk a0.2.b)))) else (Cp k2 a1 a0)) else (k2 a3 a4 a5.2.b a1)
def Cn (F:Nat) (p1:Int) (a1:Int) (a2:Int) (k2:(Int→Int→(List Int)→(List api_Span)→Option (Except (Value×volume_reader) ((List api_Span)×volume_reader)))) (a4:(Int×volume_reader)) (k6:(Int→(List api_Span)→Option (Except (Value×volume_reader) ((List api_Span)×volume_reader)))) (a3:Int) (a0:(List api_Span)):Option (Except (Value×volume_reader) ((List api_Span)×volume_reader)) :=
  bif (decide (a3<a4.1)) then ((apd 16 a0 ([(api_Span.mk a1 a2)])).bind fun a5 =>
  (ck (a3+1)).bind fun a6 =>
  k6 a6 a5) else (Bt F p1 a1 a2 k2 a4 a0)
def B5 (F:Nat) (p1:Int) (a0:Int) (a1:Int) (k2:(Int→Int→(List Int)→(List api_Span)→Option (Except (Value×volume_reader) ((List api_Span)×volume_reader)))) (a2:(Int×volume_reader)):Nat→Int→(List api_Span)→Option (Except (Value×volume_reader) ((List api_Span)×volume_reader))
  | 0,_,_=>none
  | n+1,a4,a3=>Cn F p1 a0 a1 k2 a2 (B5 F p1 a0 a1 k2 a2 n) a4 a3
def Co (F:Nat) (p1:Int) (a1:Int) (a2:Int) (a0:(List api_Span)) (k2:(Int→Int→(List Int)→(List api_Span)→Option (Except (Value×volume_reader) ((List api_Span)×volume_reader)))) (a3:(Int×volume_reader)):Option (Except (Value×volume_reader) ((List api_Span)×volume_reader)) :=
  B5 F p1 a1 a2 k2 a3 F 0 a0
def Br (F:Nat) (p1:Int) (k2:(Int→Int→(List Int)→(List api_Span)→Option (Except (Value×volume_reader) ((List api_Span)×volume_reader)))) (a4:Int) (a5:Int) (a3:(List Int)) (a0:(List api_Span)):Option (Except (Value×volume_reader) ((List api_Span)×volume_reader)) :=
  bif (decide (((a0.length:Nat):Int)<p1)) then ((Ab F (volume_reader.mk a3)).bind fun a7 =>
  exc a7 (fun a2=>some (.error (a2.1,(volume_reader.mk a2.2.b)))) fun a1 =>
  (ck (p1-((a0.length:Nat):Int))).bind fun a6 =>
  bif (decide (a1.1>a6)) then (some (.error (.iface 128 (.int .i64 7),(volume_reader.mk a1.2.b)))) else (Co F p1 a4 a5 a0 k2 a1)) else (Bs a4 a5 a3 a0)
def Az (F:Nat) (p1:Int):Nat→Int→Int→(List Int)→(List api_Span)→Option (Except (Value×volume_reader) ((List api_Span)×volume_reader))
  | 0,_,_,_,_=>none
  | n+1,a2,a3,a0,a1=>Br F p1 (Az F p1 n) a2 a3 a0 a1
def C2 (F:Nat) (p0:volume_reader) (p1:Int) (p2:api_Span):Option (Except (Value×volume_reader) ((List api_Span)×volume_reader)) :=
  Az F p1 F p2.Lo p2.Hi p0.b ([])
def Em (a0:(List Int)):Option (Except (Value×volume_reader) (volume_thing×volume_reader)) :=
  some (.error (.iface 128 (.int .i64 7),(volume_reader.mk a0)))
def Dp (a8:(ByteArray×volume_reader)) (a9:(Int×volume_reader)) (aA:(Int×volume_reader)) (a1:Int) (a2:Int) (a3:Int) (a4:Int) (a5:Int) (a6:Int) (a7:Int) (aB:((List api_Echo)×volume_reader)) (a0:(List (List api_Echo))):Option (Except (Value×volume_reader) (volume_thing×volume_reader)) :=
  some (.ok ((volume_thing.ic156 (volume_sweep.mk (api_Sweep.mk (api_Site.mk a8.1 a9.1 aA.1 a1 a2 a3 a4 a5) a6 a7 a0))),(volume_reader.mk aB.2.b)))
def El (aC:(ByteArray×volume_reader)) (aD:(Int×volume_reader)) (aE:(Int×volume_reader)) (a6:Int) (a7:Int) (a1:Int) (a8:Int) (a9:Int) (aA:Int) (aB:Int) (aF:((List api_Echo)×volume_reader)) (k4:((List (List api_Echo))→(List api_Echo)→Option (Except (Value×volume_reader) (volume_thing×volume_reader)))) (a2:(List (List api_Echo))) (a0:(List api_Echo)):Option (Except (Value×volume_reader) (volume_thing×volume_reader)) :=
  bif (decide (((a0.length:Nat):Int)>0)) then ((Jl a0 (0:Int) a1).bind fun a3 =>
  (apd 24 a2 ([a3])).bind fun a4 =>
  (Jl a0 a1 ((a0.length:Nat):Int)).bind fun a5 =>
  k4 a4 a5) else (Dp aC aD aE a6 a7 a1 a8 a9 aA aB aF a2)
def Bx (a7:(ByteArray×volume_reader)) (a8:(Int×volume_reader)) (a9:(Int×volume_reader)) (a0:Int) (a1:Int) (a2:Int) (a3:Int) (a4:Int) (a5:Int) (a6:Int) (aA:((List api_Echo)×volume_reader)):Nat→(List (List api_Echo))→(List api_Echo)→Option (Except (Value×volume_reader) (volume_thing×volume_reader))
  | 0,_,_=>none
  | n+1,aB,aC=>El a7 a8 a9 a0 a1 a2 a3 a4 a5 a6 aA (Bx a7 a8 a9 a0 a1 a2 a3 a4 a5 a6 aA n) aB aC
def Do (F:Nat) (a7:(ByteArray×volume_reader)) (a8:(Int×volume_reader)) (a9:(Int×volume_reader)) (a4:Int) (a0:Int) (a1:Int) (a5:Int) (a6:Int) (aB:Int) (aC:Int) (a3:(List Int)):Option (Except (Value×volume_reader) (volume_thing×volume_reader)) :=
  (Gk F (api_Site.mk a7.1 a8.1 a9.1 a4 a0 a1 a5 a6)).bind fun aF =>
  (Gv F aF).bind fun aG =>
  exc aG (fun v_=>some (.error (v_,(volume_reader.mk a3)))) fun aI =>
  (ck (4*a0)).bind fun aD =>
  (ck (aD*a1)).bind fun aE =>
  (C1 F (volume_reader.mk a3) aE (api_Echo.mk 1 (api_Span.mk 0 0) ((api_Span.mk 0 0),(api_Span.mk 0 0)) 0 (api_Span.mk 0 0) (api_Span.mk 0 0) (api_Span.mk 0 0))).bind fun aH =>
  exc aH (fun a2=>some (.error (a2.1,(volume_reader.mk a2.2.b)))) fun aA =>
  Bx a7 a8 a9 a4 a0 a1 a5 a6 aB aC aA F ([]) aA.1
def C0 (F:Nat) (p0:volume_reader):Option (Except (Value×volume_reader) (volume_thing×volume_reader)) :=
  (Ab F p0).bind fun bL =>
  exc bL (fun aK=>some (.error (aK.1,(volume_reader.mk aK.2.b)))) fun a0 =>
  bif (a0.1==1) then ((D4 F (volume_reader.mk a0.2.b)).bind fun bM =>
  exc bM (fun aL=>some (.error (aL.1,(volume_reader.mk aL.2.b)))) fun b0 =>
  (Bf F (volume_reader.mk b0.2.b)).bind fun bN =>
  exc bN (fun aM=>some (.error (aM.1,(volume_reader.mk aM.2.b)))) fun b1 =>
  (Bf F (volume_reader.mk b1.2.b)).bind fun bO =>
  exc bO (fun aN=>some (.error (aN.1,(volume_reader.mk aN.2.b)))) fun b2 =>
  (Ab F (volume_reader.mk b2.2.b)).bind fun bP =>
  exc bP (fun aO=>some (.error (aO.1,(volume_reader.mk aO.2.b)))) fun b3 =>
  (Ab F (volume_reader.mk b3.2.b)).bind fun bQ =>
  exc bQ (fun aP=>some (.error (aP.1,(volume_reader.mk aP.2.b)))) fun b4 =>
  (Ab F (volume_reader.mk b4.2.b)).bind fun bR =>
  exc bR (fun aQ=>some (.error (aQ.1,(volume_reader.mk aQ.2.b)))) fun b5 =>
  (Ab F (volume_reader.mk b5.2.b)).bind fun bS =>
  exc bS (fun a6=>some (.error (a6.1,(volume_reader.mk a6.2.b)))) fun aR =>
  (Ab F (volume_reader.mk aR.2.b)).bind fun b7 =>
  exc b7 (fun a7=>some (.error (a7.1,(volume_reader.mk a7.2.b)))) fun aS =>
  (Ab F (volume_reader.mk aS.2.b)).bind fun b8 =>
  exc b8 (fun a8=>some (.error (a8.1,(volume_reader.mk a8.2.b)))) fun aT =>
  (Ab F (volume_reader.mk aT.2.b)).bind fun b9 =>
  exc b9 (fun a9=>some (.error (a9.1,(volume_reader.mk a9.2.b)))) fun aU =>
  Do F b0 b1 b2 b3.1 b4.1 b5.1 aR.1 aS.1 aT.1 aU.1 aU.2.b) else (bif (a0.1==2) then ((D4 F (volume_reader.mk a0.2.b)).bind fun bA =>
  exc bA (fun aA=>some (.error (aA.1,(volume_reader.mk aA.2.b)))) fun aV =>
  (Ab F (volume_reader.mk aV.2.b)).bind fun bB =>
  exc bB (fun aB=>some (.error (aB.1,(volume_reader.mk aB.2.b)))) fun aW =>
  (Bf F (volume_reader.mk aW.2.b)).bind fun bC =>
  exc bC (fun aC=>some (.error (aC.1,(volume_reader.mk aC.2.b)))) fun a3 =>
  (Bf F (volume_reader.mk a3.2.b)).bind fun bD =>
  exc bD (fun aD=>some (.error (aD.1,(volume_reader.mk aD.2.b)))) fun a4 =>
  (Ab F (volume_reader.mk a4.2.b)).bind fun bE =>
  exc bE (fun aE=>some (.error (aE.1,(volume_reader.mk aE.2.b)))) fun a5 =>
  (Ab F (volume_reader.mk a5.2.b)).bind fun bF =>
  exc bF (fun aF=>some (.error (aF.1,(volume_reader.mk aF.2.b)))) fun a2 =>
  (Ab F (volume_reader.mk a2.2.b)).bind fun bG =>
  exc bG (fun aG=>some (.error (aG.1,(volume_reader.mk aG.2.b)))) fun a1 =>
  (Gv F (Bl (api_Grid.mk a3.1 a4.1 a5.1 a2.1 a1.1))).bind fun bH =>
  exc bH (fun v_=>some (.error (v_,(volume_reader.mk a1.2.b)))) fun bT =>
  (ck (a2.1*a1.1)).bind fun b6 =>
  (C2 F (volume_reader.mk a1.2.b) b6 (api_Span.mk 0 0)).bind fun bI =>
  exc bI (fun aH=>some (.error (aH.1,(volume_reader.mk aH.2.b)))) fun aX =>
  some (.ok ((volume_thing.ic158 (volume_field.mk aV.1 aW.1 (api_Field.mk (api_Grid.mk a3.1 a4.1 a5.1 a2.1 a1.1) aX.1))),(volume_reader.mk aX.2.b)))) else (bif (a0.1==3) then ((Ab F (volume_reader.mk a0.2.b)).bind fun bJ =>
  exc bJ (fun aI=>some (.error (aI.1,(volume_reader.mk aI.2.b)))) fun aY =>
  (D4 F (volume_reader.mk aY.2.b)).bind fun bK =>
  exc bK (fun aJ=>some (.error (aJ.1,(volume_reader.mk aJ.2.b)))) fun aZ =>
  some (.ok ((volume_thing.ic160 (volume_note.mk aY.1 aZ.1)),(volume_reader.mk aZ.2.b)))) else (Em a0.2.b)))
def Au (p0:Int) (p1:Int) (p2:Int):Bool :=
  bif (decide (p1≤p0)) then (decide (p0≤p2)) else false
def Ag (p0:api_Span) (p1:Int) (p2:Int):Bool :=
  bif (bif (decide (p1≤p0.Lo)) then (decide (p0.Lo≤p0.Hi)) else false) then (decide (p0.Hi≤p2)) else false
def J9:Option Bool :=
  some true
def F6 (p0:(List api_Span)) (k2:(Int→Option Bool)) (a1:Int):Option Bool :=
  bif (decide (a1<((p0.length:Nat):Int))) then ((Dg p0 a1).bind fun a0 =>
  (gd (((!(Au a0.Lo (-32768) 32767))==false&&true)) (ck (a0.Lo+65536)) 0).bind fun a2 =>
  (gd (((!(Au a0.Lo (-32768) 32767))==false&&true)) (ck (a2-1)) 0).bind fun a3 =>
  bif (bif (!(Au a0.Lo (-32768) 32767)) then true else (!(Au a0.Hi a0.Lo a3))) then (some false) else ((ck (a1+1)).bind fun a4 =>
  k2 a4)) else (J9)
def Dn (p0:(List api_Span)):Nat→Int→Option Bool
  | 0,_=>none
  | n+1,a0=>F6 p0 (Dn p0 n) a0
def Jd (F:Nat) (p0:(List api_Span)):Option Bool :=
  Dn p0 F 0
def Di (c7:Bool):Option Int :=
  bif (!c7) then (some 3) else (some 0)
def Cu (F:Nat) (p0:api_Echo) (c9:Bool):Option Int :=
  bif c9 then (bif (p0.Kind==2) then (Di (bif (bif (bif (bif (bif (bif (Ag p0.Power 0 1073741824) then (decide (p0.Power.Lo>0)) else false) then (Ag p0.Ratio 0 1000000) else false) then (Ag p0.Match 0 1000) else false) then (Au p0.Spread 0 65535) else false) then ((((p0.Steps.1.Lo:Int)==0)&&(((p0.Steps.1.Hi:Int)==0)&&true))&&((((p0.Steps.2.Lo:Int)==0)&&(((p0.Steps.2.Hi:Int)==0)&&true))&&true)) else false) then (((p0.Turn.Lo:Int)==0)&&(((p0.Turn.Hi:Int)==0)&&true)) else false)) else (bif (bif (bif (bif (bif (Ag p0.Power 0 1073741824) then (decide (p0.Power.Lo>0)) else false) then (Ag p0.Ratio 0 1000000) else false) then (Ag p0.Match 0 1000) else false) then (Au p0.Spread 0 65535) else false) then ((Jd F ([(api_Span.mk p0.Steps.1.Lo p0.Steps.1.Hi),(api_Span.mk p0.Steps.2.Lo p0.Steps.2.Hi),p0.Turn])).bind fun a0 =>
  Di a0) else (Di false))) else (some 2)
def H9 (F:Nat) (p0:api_Echo):Option Int :=
  bif (p0.Kind==1) then (Di (bif (Ag p0.Power 0 1073741824) then (((p0.Kind:Int)==1)&&((((p0.Power.Lo:Int)==0)&&(((p0.Power.Hi:Int)==p0.Power.Hi)&&true))&&(((((p0.Steps.1.Lo:Int)==0)&&(((p0.Steps.1.Hi:Int)==0)&&true))&&((((p0.Steps.2.Lo:Int)==0)&&(((p0.Steps.2.Hi:Int)==0)&&true))&&true))&&(((p0.Spread:Int)==0)&&((((p0.Ratio.Lo:Int)==0)&&(((p0.Ratio.Hi:Int)==0)&&true))&&((((p0.Match.Lo:Int)==0)&&(((p0.Match.Hi:Int)==0)&&true))&&((((p0.Turn.Lo:Int)==0)&&(((p0.Turn.Hi:Int)==0)&&true))&&true))))))) else false)) else (bif (p0.Kind==2) then (Cu F p0 (p0.Kind==2)) else (Cu F p0 (p0.Kind==3)))
def Gj:Option Int :=
  some 0
def Eu (a0:Int) (k3:(Int→Option Int)):Option Int :=
  (ck (a0+1)).bind fun a1 =>
  k3 a1
def Gg (F:Nat) (a4:Int) (k3:(Int→Option Int)) (a2:(List api_Echo)) (k5:(Int→Option Int)) (a1:Int):Option Int :=
  bif (decide (a1<((a2.length:Nat):Int))) then ((Dg a2 a1).bind fun a0 =>
  (H9 F (api_Echo.mk a0.Kind a0.Power ((api_Span.mk a0.Steps.1.Lo a0.Steps.1.Hi),(api_Span.mk a0.Steps.2.Lo a0.Steps.2.Hi)) a0.Spread a0.Ratio a0.Match a0.Turn)).bind fun a3 =>
  bif (a3 != 0) then (some a3) else ((ck (a1+1)).bind fun a5 =>
  k5 a5)) else (Eu a4 k3)
def D3 (F:Nat) (a1:Int) (k3:(Int→Option Int)) (a0:(List api_Echo)):Nat→Int→Option Int
  | 0,_=>none
  | n+1,a2=>Gg F a1 k3 a0 (D3 F a1 k3 a0 n) a2
def Gf (F:Nat) (p0:api_Sweep) (k3:(Int→Option Int)) (a0:Int):Option Int :=
  bif (decide (a0<((p0.Rays.length:Nat):Int))) then ((Dg p0.Rays a0).bind fun a1 =>
  D3 F a0 k3 a1 F 0) else (Gj)
def D2 (F:Nat) (p0:api_Sweep):Nat→Int→Option Int
  | 0,_=>none
  | n+1,a0=>Gf F p0 (D2 F p0 n) a0
def Gi (F:Nat) (p0:api_Sweep):Option Int :=
  D2 F p0 F 0
def Gh (F:Nat) (p0:api_Sweep) (k6:(Int→Option Int)) (a0:Int):Option Int :=
  bif (decide (a0<((p0.Rays.length:Nat):Int))) then ((Dg p0.Rays a0).bind fun a1 =>
  bif (((a1.length:Nat):Int) != p0.Site.Gates) then (some 11) else ((ck (a0+1)).bind fun a2 =>
  k6 a2)) else (Gi F p0)
def Dx (F:Nat) (p0:api_Sweep):Nat→Int→Option Int
  | 0,_=>none
  | n+1,a0=>Gh F p0 (Dx F p0 n) a0
def Gp (F:Nat) (p0:api_Sweep):Option Int :=
  (Gk F p0.Site).bind fun y6 =>
  bif (y6 != 0) then (some y6) else (bif (bif (!(Au p0.Tilt 0 256)) then true else (!(Au p0.Time 0 4294967296))) then (some 3) else ((ck (4*p0.Site.Rose)).bind fun x7 =>
  bif (((p0.Rays.length:Nat):Int) != x7) then (some 11) else (Dx F p0 F 0)))
def Cw (F:Nat) (p0:volume_sweep):Option Int :=
  (Gp F p0.Sweep).bind fun y6 =>
  some y6
def L2:Option Int :=
  some 0
def L1 (p0:api_Field) (p1:Int) (k2:(Int→Option Int)) (a1:Int):Option Int :=
  bif (decide (a1<((p0.Vals.length:Nat):Int))) then ((Dg p0.Vals a1).bind fun a0 =>
  bif (bif (bif (decide (a0.Lo<0)) then true else (decide (a0.Hi<a0.Lo))) then true else (decide (a0.Hi>p1))) then (some 3) else ((ck (a1+1)).bind fun a2 =>
  k2 a2)) else (L2)
def Hc (p0:api_Field) (p1:Int):Nat→Int→Option Int
  | 0,_=>none
  | n+1,a0=>L1 p0 p1 (Hc p0 p1 n) a0
def N4 (F:Nat) (p0:api_Field) (p1:Int):Option Int :=
  bif ((Bl p0.Grid) != 0) then (some (Bl p0.Grid)) else ((ck (p0.Grid.Wide*p0.Grid.High)).bind fun x5 =>
  bif (((p0.Vals.length:Nat):Int) != x5) then (some 11) else (Hc p0 p1 F 0))
def Jg (F:Nat) (p0:api_Field):Option Int :=
  (N4 F p0 1073741824).bind fun y5 =>
  some y5
def Cv (F:Nat) (p0:volume_field):Option Int :=
  (Ly F p0.key).bind fun y5 =>
  bif (!y5) then (some 10) else (bif (bif (decide (p0.time<0)) then true else (decide (p0.time>4294967296))) then (some 3) else ((Jg F p0.Field).bind fun y6 =>
  some y6))
def G5:Option Int :=
  some 0
def G4 (a1:(List Int)) (k2:(Int→Option Int)) (a0:Int):Option Int :=
  bif (decide (a0<((a1.length:Nat):Int))) then ((Dg a1 a0).bind fun a2 =>
  bif (bif (decide (a2<32)) then true else (decide (a2>126))) then (some 7) else ((ck (a0+1)).bind fun a3 =>
  k2 a3)) else (G5)
def Dq (a0:(List Int)):Nat→Int→Option Int
  | 0,_=>none
  | n+1,a1=>G4 a0 (Dq a0 n) a1
def D9 (F:Nat) (p0:volume_note):Option Int :=
  bif (bif (decide (p0.time<0)) then true else (decide (p0.time>4294967296))) then (some 3) else (bif (decide (((p0.text.size:Nat):Int)>200)) then (some 8) else ((s2b p0.text).bind fun a0 =>
  Dq a0 F 0))
def Dk (F:Nat) (p0:volume_thing):Option Int:=p0.cs none (fun y=>Cw F y) (fun y=>Cv F y) (fun y=>D9 F y)
def Hg (F:Nat) (p0:(List Int)):Option (volume_thing×Int) :=
  (Cj F (volume_reader.mk p0)).bind fun y7 =>
  bif (!y7.2.1) then (some (volume_thing.nil_,15)) else ((ck (y7.1+5)).bind fun a5 =>
  bif (((y7.2.2.b.length:Nat):Int) != a5) then (some (volume_thing.nil_,15)) else ((ck (((p0.length:Nat):Int)-5)).bind fun a6 =>
  (Jl p0 a6 ((p0.length:Nat):Int)).bind fun a2 =>
  (ck (((p0.length:Nat):Int)-5)).bind fun a7 =>
  (Jl p0 (0:Int) a7).bind fun a3 =>
  (Jm F a3).bind fun a8 =>
  bif (!(Fv a2 a8)) then (some (volume_thing.nil_,15)) else ((Jl y7.2.2.b (0:Int) y7.1).bind fun a4 =>
  (C0 F (volume_reader.mk a4)).bind fun a9 =>
  exc a9 (fun a1=>(asI 128 .i64 a1.1).bind fun aC =>
  some (volume_thing.nil_,aC)) fun a0 =>
  (Dk F a0.1).bind fun aA =>
  (Gv F aA).bind fun aB =>
  exc aB (fun v_=>(asI 128 .i64 v_).bind fun aD =>
  some (volume_thing.nil_,aD)) fun aE =>
  bif (decide (((a0.2.b.length:Nat):Int)>0)) then (some (volume_thing.nil_,7)) else (some (a0.1,0)))))
def J3 (F:Nat) (p0:(List Int)) (a1:Bool):Option Bool :=
  (Cj F (volume_reader.mk p0)).bind fun a0 =>
  bif a1 then (some true) else (bif a0.2.1 then ((ck (a0.1+5)).bind fun a2 =>
  some (decide (((a0.2.2.b.length:Nat):Int)<a2))) else (some false))
def Ki (F:Nat) (p0:(List Int)) (k2:(Int→Bool→Option Bool)) (a0:Int) (a1:Bool):Option Bool :=
  bif (decide (a0<((p0.length:Nat):Int))) then ((Dg p0 a0).bind fun a2 =>
  (ck (a0+1)).bind fun a3 =>
  k2 a3 (bif (bif a1 then (decide (a2≥128)) else false) then (decide (a2≤254)) else false)) else (J3 F p0 a1)
def Gu (F:Nat) (p0:(List Int)):Nat→Int→Bool→Option Bool
  | 0,_,_=>none
  | n+1,a1,a0=>Ki F p0 (Gu F p0 n) a1 a0
def Lj (F:Nat) (p0:(List Int)):Option Bool :=
  Gu F p0 F 0 true
def Ao (p0:volume_sweep):volume_Item :=
  (volume_Item.mk 1 ByteArray.empty 0 p0.Sweep (api_Field.mk (api_Grid.mk 0 0 0 0 0) ([]:(List api_Span))) ByteArray.empty)
def An (p0:volume_field):volume_Item :=
  (volume_Item.mk 2 p0.key p0.time (api_Sweep.mk (api_Site.mk ByteArray.empty 0 0 0 0 0 0 0) 0 0 ([]:(List (List api_Echo)))) p0.Field ByteArray.empty)
def Ar (p0:volume_note):volume_Item :=
  (volume_Item.mk 3 ByteArray.empty p0.time (api_Sweep.mk (api_Site.mk ByteArray.empty 0 0 0 0 0 0 0) 0 0 ([]:(List (List api_Echo)))) (api_Field.mk (api_Grid.mk 0 0 0 0 0) ([]:(List api_Span))) p0.text)
def Hm (F:Nat) (p0:volume_thing):Option volume_Item:=p0.cs none (fun y=>some (Ao y)) (fun y=>some (An y)) (fun y=>some (Ar y))
def Eh (a0:(List volume_Item)) (a1:Int) (a2:Int):Option ((List volume_Item)×Int×Int) :=
  bif (decide (((a0.length:Nat):Int)>1000)) then (some (([]:(List volume_Item)),0,9)) else (some (a0,a1,a2))
def Gt (F:Nat) (p0:(List Int)) (s_r:((List volume_Item)×Int×Int×Nat)) (x_:(Int×(List Int))):Option (((List volume_Item)×Int×Int×Nat)×Bool) :=
  (Hg F x_.2).bind fun a0 =>
  bif (a0.2 != 0) then ((ck (x_.1+1)).bind fun a3 =>
  (ck (a3+((x_.2.length:Nat):Int))).bind fun a1 =>
  (gd (((a1==((p0.length:Nat):Int))==true&&true)) (Lj F x_.2) default).bind fun a4 =>
  bif (bif (a1==((p0.length:Nat):Int)) then a4 else false) then (some ((s_r.1,x_.1,16,3),false)) else (some ((s_r.1,x_.1,a0.2,3),false))) else ((Hm F a0.1).bind fun a5 =>
  (apd 224 s_r.1 ([a5])).bind fun a2 =>
  some ((a2,s_r.2.1,s_r.2.2.1,0),true))
def J1 (tg_:Nat):Code:=(bif (tg_==3) then .exit 1 else .ret)
def D8 (F:Nat) (p0:(List Int)):Option ((List volume_Item)×Int×Int) :=
  bif (decide (((p0.length:Nat):Int)>16777216)) then (some (([]:(List volume_Item)),0,8)) else ((H6 F p0 ([82,86,70,49])).bind fun y9 =>
  (gd (((decide (((p0.length:Nat):Int)>4))==true&&((!y9)==false&&true))) (Dg p0 4) default).bind fun a1 =>
  bif (bif (!y9) then true else (bif (decide (((p0.length:Nat):Int)>4)) then (a1 != 0) else false)) then (some (([]:(List volume_Item)),0,7)) else ((Eo F p0 (Gt F p0) (([]:List volume_Item),((p0.length:Nat):Int),0,0)).bind fun a0 =>
  bif a0.2 then (Eh a0.1.1 a0.1.2.1 a0.1.2.2.1) else (bif (a0.1.2.2.2==3) then (Eh a0.1.1 a0.1.2.1 a0.1.2.2.1) else (none))))
def Kb (F:Nat) (s_r:((List volume_Item)×Int×Nat)) (x_:(Int×(List Int))):Option (((List volume_Item)×Int×Nat)×Bool) :=
  (Hg F x_.2).bind fun a0 =>
  bif (a0.2==0) then ((Hm F a0.1).bind fun a3 =>
  (apd 224 s_r.1 ([a3])).bind fun a1 =>
  some ((a1,s_r.2.1,0),true)) else ((ck (s_r.2.1+1)).bind fun a2 =>
  some ((s_r.1,a2,0),true))
def Kc (tg_:Nat):Code:=.ret
def M9 (F:Nat) (p0:(List Int)):Option ((List volume_Item)×Int×Int) :=
  bif (decide (((p0.length:Nat):Int)>16777216)) then (some (([]:(List volume_Item)),0,8)) else ((Eo F p0 (Kb F) (([]:List volume_Item),0,0)).bind fun a0 =>
  bif a0.2 then (bif (decide (((a0.1.1.length:Nat):Int)>1000)) then (some (([]:(List volume_Item)),0,9)) else (some (a0.1.1,a0.1.2.1,0))) else (none))
def F8 (p0:volume_Item):volume_thing :=
  bif (p0.Kind==1) then (bif (bif (bif (bif (bif (!(sEq p0.Name ((Ao (volume_sweep.mk p0.Sweep)).Name))) then true else (p0.Time != ((Ao (volume_sweep.mk p0.Sweep)).Time))) then true else (!(sEq p0.Text ((Ao (volume_sweep.mk p0.Sweep)).Text)))) then true else false) then true else (!(bif (((p0.Field.Grid.X:Int)==0)&&(((p0.Field.Grid.Y:Int)==0)&&(((p0.Field.Grid.Size:Int)==0)&&(((p0.Field.Grid.Wide:Int)==0)&&(((p0.Field.Grid.High:Int)==0)&&true))))) then (((p0.Field.Vals.length:Nat):Int)==0) else false))) then (volume_thing.nil_) else ((volume_thing.ic156 (volume_sweep.mk p0.Sweep)))) else (bif (p0.Kind==2) then (bif (bif (bif (bif (bif (!(sEq p0.Name ((An (volume_field.mk p0.Name p0.Time p0.Field)).Name))) then true else (p0.Time != ((An (volume_field.mk p0.Name p0.Time p0.Field)).Time))) then true else (!(sEq p0.Text ((An (volume_field.mk p0.Name p0.Time p0.Field)).Text)))) then true else (!(bif (bif (bif ((p0.Sweep.Site.Name==ByteArray.empty)&&(((p0.Sweep.Site.X:Int)==0)&&(((p0.Sweep.Site.Y:Int)==0)&&(((p0.Sweep.Site.Z:Int)==0)&&(((p0.Sweep.Site.Rose:Int)==0)&&(((p0.Sweep.Site.Gates:Int)==0)&&(((p0.Sweep.Site.Step:Int)==0)&&(((p0.Sweep.Site.Width:Int)==0)&&true)))))))) then (p0.Sweep.Tilt==0) else false) then (p0.Sweep.Time==0) else false) then (((p0.Sweep.Rays.length:Nat):Int)==0) else false))) then true else false) then (volume_thing.nil_) else ((volume_thing.ic158 (volume_field.mk p0.Name p0.Time p0.Field)))) else (bif (p0.Kind==3) then (bif (bif (bif (bif (bif (!(sEq p0.Name ((Ar (volume_note.mk p0.Time p0.Text)).Name))) then true else (p0.Time != ((Ar (volume_note.mk p0.Time p0.Text)).Time))) then true else (!(sEq p0.Text ((Ar (volume_note.mk p0.Time p0.Text)).Text)))) then true else (!(bif (bif (bif ((p0.Sweep.Site.Name==ByteArray.empty)&&(((p0.Sweep.Site.X:Int)==0)&&(((p0.Sweep.Site.Y:Int)==0)&&(((p0.Sweep.Site.Z:Int)==0)&&(((p0.Sweep.Site.Rose:Int)==0)&&(((p0.Sweep.Site.Gates:Int)==0)&&(((p0.Sweep.Site.Step:Int)==0)&&(((p0.Sweep.Site.Width:Int)==0)&&true)))))))) then (p0.Sweep.Tilt==0) else false) then (p0.Sweep.Time==0) else false) then (((p0.Sweep.Rays.length:Nat):Int)==0) else false))) then true else (!(bif (((p0.Field.Grid.X:Int)==0)&&(((p0.Field.Grid.Y:Int)==0)&&(((p0.Field.Grid.Size:Int)==0)&&(((p0.Field.Grid.Wide:Int)==0)&&(((p0.Field.Grid.High:Int)==0)&&true))))) then (((p0.Field.Vals.length:Nat):Int)==0) else false))) then (volume_thing.nil_) else ((volume_thing.ic160 (volume_note.mk p0.Time p0.Text)))) else (volume_thing.nil_)))
def J2 (F:Nat) (p0:volume_Item):Option (volume_thing×Int) :=
  volume_thing.cs (F8 p0) (some (volume_thing.nil_,2)) (fun a0=>(Cw F a0).bind fun a1 =>
  some ((volume_thing.ic156 a0),a1)) (fun a0=>(Cv F a0).bind fun a2 =>
  some ((volume_thing.ic158 a0),a2)) (fun a0=>(D9 F a0).bind fun a3 =>
  some ((volume_thing.ic160 a0),a3))
def Ec (a1:Int) (k1:((List Int)→Int→Option volume_writer)) (a0:(List Int)):Option volume_writer :=
  (ck (a1+1)).bind fun a2 =>
  k1 a0 a2
def Ed (a2:Int) (k1:((List Int)→Int→Option volume_writer)) (a0:(List Int)) (a3:Int):Option volume_writer :=
  (ck (1+a3)).bind fun a4 =>
  (apd 1 a0 ([IntKind.u8.wrap a4])).bind fun a1 =>
  Ec a2 k1 a1
def Eb (a3:Int) (k1:((List Int)→Int→Option volume_writer)) (k4:((List Int)→Int→Option volume_writer)) (a1:(List Int)) (a0:Int):Option volume_writer :=
  bif (decide (a0≥127)) then ((Ju a0 127).bind fun a4 =>
  (ck (128+a4)).bind fun a5 =>
  (apd 1 a1 ([IntKind.u8.wrap a5])).bind fun a2 =>
  (Ni a0 127).bind fun a6 =>
  k4 a2 a6) else (Ed a3 k1 a1 a0)
def Cg (a0:Int) (k1:((List Int)→Int→Option volume_writer)):Nat→(List Int)→Int→Option volume_writer
  | 0,_,_=>none
  | n+1,a1,a2=>Eb a0 k1 (Cg a0 k1 n) a1 a2
def Ea (F:Nat) (p1:(List Int)) (k1:((List Int)→Int→Option volume_writer)) (a1:(List Int)) (a0:Int):Option volume_writer :=
  bif (decide (a0<((p1.length:Nat):Int))) then ((Dg p1 a0).bind fun a2 =>
  Cg a0 k1 F a1 a2) else (some (volume_writer.mk a1))
def Cf (F:Nat) (p1:(List Int)):Nat→(List Int)→Int→Option volume_writer
  | 0,_,_=>none
  | n+1,a0,a1=>Ea F p1 (Cf F p1 n) a0 a1
def Ai (F:Nat) (p0:volume_writer) (p1:(List Int)):Option volume_writer :=
  Cf F p1 F p0.b 0
def D6 (F:Nat) (p0:volume_writer) (p1:ByteArray):Option volume_writer :=
  (Ai F p0 ([((p1.size:Nat):Int)])).bind fun y8 =>
  (apd 1 y8.b (sby p1)).bind fun a0 =>
  some (volume_writer.mk a0)
def C3 (a1:Int) (k1:((List Int)→Int→Option volume_writer)) (a0:(List Int)):Option volume_writer :=
  (ck (a1+1)).bind fun a2 =>
  k1 a0 a2
def E0 (F:Nat) (p1:(List Int)) (k1:((List Int)→Int→Option volume_writer)) (a1:(List Int)) (a0:Int):Option volume_writer :=
  bif (decide (a0<((p1.length:Nat):Int))) then ((Dg p1 a0).bind fun a2 =>
  bif (decide (a2<0)) then ((ck ((-2)*a2)).bind fun a3 =>
  (ck (a3-1)).bind fun a4 =>
  (Ai F (volume_writer.mk a1) ([a4])).bind fun a6 =>
  C3 a0 k1 a6.b) else ((ck (2*a2)).bind fun a5 =>
  (Ai F (volume_writer.mk a1) ([a5])).bind fun a7 =>
  C3 a0 k1 a7.b)) else (some (volume_writer.mk a1))
def Bd (F:Nat) (p1:(List Int)):Nat→(List Int)→Int→Option volume_writer
  | 0,_,_=>none
  | n+1,a0,a1=>E0 F p1 (Bd F p1 n) a0 a1
def C7 (F:Nat) (p0:volume_writer) (p1:(List Int)):Option volume_writer :=
  Bd F p1 F p0.b 0
def D5 (F:Nat) (p0:volume_writer) (p1:api_Span):Option volume_writer :=
  (C7 F p0 ([p1.Lo])).bind fun y9 =>
  (ck (p1.Hi-p1.Lo)).bind fun a0 =>
  (Ai F y9 ([a0])).bind fun a1 =>
  some a1
def C5 (F:Nat) (p1:api_Echo) (k2:((List Int)→Int→Option volume_writer)) (a1:(List Int)) (a0:Int):Option volume_writer :=
  bif (decide (a0<((3:Nat):Int))) then ((Dg ([(api_Span.mk p1.Steps.1.Lo p1.Steps.1.Hi),(api_Span.mk p1.Steps.2.Lo p1.Steps.2.Hi),p1.Turn]) a0).bind fun a2 =>
  (D5 F (volume_writer.mk a1) a2).bind fun a4 =>
  (ck (a0+1)).bind fun a3 =>
  k2 a4.b a3) else (some (volume_writer.mk a1))
def Bm (F:Nat) (p1:api_Echo):Nat→(List Int)→Int→Option volume_writer
  | 0,_,_=>none
  | n+1,a0,a1=>C5 F p1 (Bm F p1 n) a0 a1
def Ey (F:Nat) (p1:api_Echo) (a1:(List Int)):Option volume_writer :=
  (Ai F (volume_writer.mk a1) ([p1.Spread])).bind fun a0 =>
  bif (p1.Kind==3) then (Bm F p1 F a0.b 0) else (some a0)
def C6 (F:Nat) (p1:api_Echo) (k3:((List Int)→Int→Option volume_writer)) (a1:(List Int)) (a0:Int):Option volume_writer :=
  bif (decide (a0<((3:Nat):Int))) then ((Dg ([p1.Power,p1.Ratio,p1.Match]) a0).bind fun a2 =>
  (D5 F (volume_writer.mk a1) a2).bind fun a4 =>
  (ck (a0+1)).bind fun a3 =>
  k3 a4.b a3) else (Ey F p1 a1)
def Bn (F:Nat) (p1:api_Echo):Nat→(List Int)→Int→Option volume_writer
  | 0,_,_=>none
  | n+1,a0,a1=>C6 F p1 (Bn F p1 n) a0 a1
def Ew (F:Nat) (p0:volume_writer) (p1:api_Echo):Option volume_writer :=
  (Ai F p0 ([p1.Kind])).bind fun y9 =>
  bif (p1.Kind==1) then ((Ai F y9 ([p1.Power.Hi])).bind fun a0 =>
  some a0) else (Bn F p1 F y9.b 0)
def Bh (F:Nat) (a7:Int) (a8:Int) (a9:Int) (aA:Int) (aB:Int) (aC:Int) (aD:Int) (aE:Int) (aF:Int) (aG:Int) (aH:Int) (aI:Int) (aJ:Int) (aK:Int) (a5:(List Int)) (a2:(List api_Echo)) (k1:(Int→Int→Int→Int→Int→Int→Int→Int→Int→Int→Int→Int→Int→Int→(List Int)→(List api_Echo)→Option volume_writer)) (a3:Int):Option volume_writer :=
  (Ai F (volume_writer.mk a5) ([a3])).bind fun a4 =>
  (Jl a2 a3 ((a2.length:Nat):Int)).bind fun a1 =>
  bif (decide (((a1.length:Nat):Int)>0)) then ((Dg a1 0).bind fun a0 =>
  (Jl a1 1 ((a1.length:Nat):Int)).bind fun a6 =>
  (Ew F a4 (api_Echo.mk a0.Kind a0.Power ((api_Span.mk a0.Steps.1.Lo a0.Steps.1.Hi),(api_Span.mk a0.Steps.2.Lo a0.Steps.2.Hi)) a0.Spread a0.Ratio a0.Match a0.Turn)).bind fun aL =>
  k1 a0.Kind a0.Power.Lo a0.Match.Lo a0.Match.Hi a0.Turn.Lo a0.Turn.Hi a0.Power.Hi a0.Steps.1.Lo a0.Steps.1.Hi a0.Steps.2.Lo a0.Steps.2.Hi a0.Spread a0.Ratio.Lo a0.Ratio.Hi aL.b a6) else (k1 a7 a8 a9 aA aB aC aD aE aF aG aH aI aJ aK a4.b a1)
def C8 (F:Nat) (a3:Int) (a4:Int) (a5:Int) (a6:Int) (a7:Int) (a8:Int) (a9:Int) (aA:Int) (aB:Int) (aC:Int) (aD:Int) (aE:Int) (aF:Int) (aG:Int) (aH:(List Int)) (a2:(List api_Echo)) (k1:(Int→Int→Int→Int→Int→Int→Int→Int→Int→Int→Int→Int→Int→Int→(List Int)→(List api_Echo)→Option volume_writer)) (k3:(Int→Option volume_writer)) (a1:Int):Option volume_writer :=
  (gd (((decide (a1<((a2.length:Nat):Int)))==true&&true)) (Dg a2 a1) default).bind fun a0 =>
  bif (bif (decide (a1<((a2.length:Nat):Int))) then (((a0.Kind:Int)==a3)&&((((a0.Power.Lo:Int)==a4)&&(((a0.Power.Hi:Int)==a9)&&true))&&(((((a0.Steps.1.Lo:Int)==aA)&&(((a0.Steps.1.Hi:Int)==aB)&&true))&&((((a0.Steps.2.Lo:Int)==aC)&&(((a0.Steps.2.Hi:Int)==aD)&&true))&&true))&&(((a0.Spread:Int)==aE)&&((((a0.Ratio.Lo:Int)==aF)&&(((a0.Ratio.Hi:Int)==aG)&&true))&&((((a0.Match.Lo:Int)==a5)&&(((a0.Match.Hi:Int)==a6)&&true))&&((((a0.Turn.Lo:Int)==a7)&&(((a0.Turn.Hi:Int)==a8)&&true))&&true))))))) else false) then ((ck (a1+1)).bind fun aI =>
  k3 aI) else (Bh F a3 a4 a5 a6 a7 a8 a9 aA aB aC aD aE aF aG aH a2 k1 a1)
def B7 (F:Nat) (a2:Int) (a3:Int) (a4:Int) (a5:Int) (a6:Int) (a7:Int) (a8:Int) (a9:Int) (aA:Int) (aB:Int) (aC:Int) (aD:Int) (aE:Int) (aF:Int) (a0:(List Int)) (a1:(List api_Echo)) (k1:(Int→Int→Int→Int→Int→Int→Int→Int→Int→Int→Int→Int→Int→Int→(List Int)→(List api_Echo)→Option volume_writer)):Nat→Int→Option volume_writer
  | 0,_=>none
  | n+1,aG=>C8 F a2 a3 a4 a5 a6 a7 a8 a9 aA aB aC aD aE aF a0 a1 k1 (B7 F a2 a3 a4 a5 a6 a7 a8 a9 aA aB aC aD aE aF a0 a1 k1 n) aG
def Bg (F:Nat) (k1:(Int→Int→Int→Int→Int→Int→Int→Int→Int→Int→Int→Int→Int→Int→(List Int)→(List api_Echo)→Option volume_writer)) (a2:Int) (a3:Int) (a4:Int) (a5:Int) (a6:Int) (a7:Int) (a8:Int) (a9:Int) (aA:Int) (aB:Int) (aC:Int) (aD:Int) (aE:Int) (aF:Int) (a0:(List Int)) (a1:(List api_Echo)):Option volume_writer :=
  bif (decide (((a1.length:Nat):Int)>0)) then (B7 F a2 a3 a4 a5 a6 a7 a8 a9 aA aB aC aD aE aF a0 a1 k1 F 0) else (some (volume_writer.mk a0))
def B2 (F:Nat):Nat→Int→Int→Int→Int→Int→Int→Int→Int→Int→Int→Int→Int→Int→Int→(List Int)→(List api_Echo)→Option volume_writer
  | 0,_,_,_,_,_,_,_,_,_,_,_,_,_,_,_,_=>none
  | n+1,a2,a3,a4,a5,a6,a7,a8,a9,aA,aB,aC,aD,aE,aF,a0,a1=>Bg F (B2 F n) a2 a3 a4 a5 a6 a7 a8 a9 aA aB aC aD aE aF a0 a1
def Bu (F:Nat) (p0:volume_writer) (p1:(List api_Echo)) (p2:api_Echo):Option volume_writer :=
  B2 F F p2.Kind p2.Power.Lo p2.Match.Lo p2.Match.Hi p2.Turn.Lo p2.Turn.Hi p2.Power.Hi p2.Steps.1.Lo p2.Steps.1.Hi p2.Steps.2.Lo p2.Steps.2.Hi p2.Spread p2.Ratio.Lo p2.Ratio.Hi p0.b p1
def Fq (F:Nat) (a1:volume_writer) (a0:(List api_Echo)):Option volume_writer :=
  (Bu F a1 a0 (api_Echo.mk 1 (api_Span.mk 0 0) ((api_Span.mk 0 0),(api_Span.mk 0 0)) 0 (api_Span.mk 0 0) (api_Span.mk 0 0) (api_Span.mk 0 0))).bind fun a2 =>
  some a2
def Fp (F:Nat) (p0:volume_sweep) (a5:volume_writer) (k2:((List api_Echo)→Int→Option volume_writer)) (a1:(List api_Echo)) (a0:Int):Option volume_writer :=
  bif (decide (a0<((p0.Sweep.Rays.length:Nat):Int))) then ((Dg p0.Sweep.Rays a0).bind fun a3 =>
  (apd 112 a1 a3).bind fun a2 =>
  (ck (a0+1)).bind fun a4 =>
  k2 a2 a4) else (Fq F a5 a1)
def De (F:Nat) (p0:volume_sweep) (a0:volume_writer):Nat→(List api_Echo)→Int→Option volume_writer
  | 0,_,_=>none
  | n+1,a1,a2=>Fp F p0 a0 (De F p0 a0 n) a1 a2
def Fi (F:Nat) (p0:volume_sweep) (p1:volume_writer):Option volume_writer :=
  (Ai F p1 ([1])).bind fun a0 =>
  (D6 F a0 p0.Sweep.Site.Name).bind fun a1 =>
  (C7 F a1 ([p0.Sweep.Site.X,p0.Sweep.Site.Y])).bind fun a2 =>
  (Ai F a2 ([p0.Sweep.Site.Z,p0.Sweep.Site.Rose,p0.Sweep.Site.Gates,p0.Sweep.Site.Step,p0.Sweep.Site.Width,p0.Sweep.Tilt,p0.Sweep.Time])).bind fun a3 =>
  De F p0 a3 F ([]) 0
def Bj (F:Nat) (a7:Int) (a8:Int) (a5:(List Int)) (a2:(List api_Span)) (k1:(Int→Int→(List Int)→(List api_Span)→Option volume_writer)) (a3:Int):Option volume_writer :=
  (Ai F (volume_writer.mk a5) ([a3])).bind fun a4 =>
  (Jl a2 a3 ((a2.length:Nat):Int)).bind fun a0 =>
  bif (decide (((a0.length:Nat):Int)>0)) then ((Dg a0 0).bind fun a1 =>
  (Jl a0 1 ((a0.length:Nat):Int)).bind fun a6 =>
  (D5 F a4 a1).bind fun a9 =>
  k1 a1.Lo a1.Hi a9.b a6) else (k1 a7 a8 a4.b a0)
def C9 (F:Nat) (a3:Int) (a4:Int) (a5:(List Int)) (a1:(List api_Span)) (k1:(Int→Int→(List Int)→(List api_Span)→Option volume_writer)) (k3:(Int→Option volume_writer)) (a0:Int):Option volume_writer :=
  (gd (((decide (a0<((a1.length:Nat):Int)))==true&&true)) (Dg a1 a0) default).bind fun a2 =>
  bif (bif (decide (a0<((a1.length:Nat):Int))) then (((a2.Lo:Int)==a3)&&(((a2.Hi:Int)==a4)&&true)) else false) then ((ck (a0+1)).bind fun a6 =>
  k3 a6) else (Bj F a3 a4 a5 a1 k1 a0)
def B8 (F:Nat) (a2:Int) (a3:Int) (a0:(List Int)) (a1:(List api_Span)) (k1:(Int→Int→(List Int)→(List api_Span)→Option volume_writer)):Nat→Int→Option volume_writer
  | 0,_=>none
  | n+1,a4=>C9 F a2 a3 a0 a1 k1 (B8 F a2 a3 a0 a1 k1 n) a4
def Bi (F:Nat) (k1:(Int→Int→(List Int)→(List api_Span)→Option volume_writer)) (a2:Int) (a3:Int) (a0:(List Int)) (a1:(List api_Span)):Option volume_writer :=
  bif (decide (((a1.length:Nat):Int)>0)) then (B8 F a2 a3 a0 a1 k1 F 0) else (some (volume_writer.mk a0))
def B3 (F:Nat):Nat→Int→Int→(List Int)→(List api_Span)→Option volume_writer
  | 0,_,_,_,_=>none
  | n+1,a2,a3,a0,a1=>Bi F (B3 F n) a2 a3 a0 a1
def Bv (F:Nat) (p0:volume_writer) (p1:(List api_Span)) (p2:api_Span):Option volume_writer :=
  B3 F F p2.Lo p2.Hi p0.b p1
def Fg (F:Nat) (p0:volume_field) (p1:volume_writer):Option volume_writer :=
  (Ai F p1 ([2])).bind fun a0 =>
  (D6 F a0 p0.key).bind fun a1 =>
  (Ai F a1 ([p0.time])).bind fun a2 =>
  (C7 F a2 ([p0.Field.Grid.X,p0.Field.Grid.Y])).bind fun a3 =>
  (Ai F a3 ([p0.Field.Grid.Size,p0.Field.Grid.Wide,p0.Field.Grid.High])).bind fun a4 =>
  (Bv F a4 p0.Field.Vals (api_Span.mk 0 0)).bind fun a5 =>
  some a5
def G6 (F:Nat) (p0:volume_note) (p1:volume_writer):Option volume_writer :=
  (Ai F p1 ([3,p0.time])).bind fun y9 =>
  (D6 F y9 p0.text).bind fun a0 =>
  some a0
def Jn (F:Nat) (p0:volume_thing) (p1:volume_writer):Option volume_writer:=p0.cs none (fun y=>Fi F y p1) (fun y=>Fg F y p1) (fun y=>G6 F y p1)
def H5 (F:Nat) (p0:volume_thing):Option (List Int) :=
  (Jn F p0 (volume_writer.mk ([]:(List Int)))).bind fun y5 =>
  (Ai F (volume_writer.mk ([]:(List Int))) ([((y5.b.length:Nat):Int)])).bind fun a3 =>
  (apd 1 a3.b y5.b).bind fun a0 =>
  (Jm F a0).bind fun a4 =>
  (apd 1 a0 a4).bind fun a1 =>
  (apd 1 ([0]) a1).bind fun a2 =>
  some a2
def Js (F:Nat) (p0:volume_Item):Option ((List Int)×Int) :=
  (J2 F p0).bind fun a0 =>
  bif (a0.2 != 0) then (some (([]:(List Int)),a0.2)) else ((H5 F a0.1).bind fun a1 =>
  some (a1,0))
def Jy:Option Bool :=
  some true
def Jx (p0:(List Int)) (p1:(List Int)) (k2:(Int→Option Bool)) (a0:Int):Option Bool :=
  bif (decide (a0<((p0.length:Nat):Int))) then ((Dg p0 a0).bind fun a1 =>
  (Dg p1 a0).bind fun a2 =>
  bif (a1 != a2) then (some false) else ((ck (a0+1)).bind fun a3 =>
  k2 a3)) else (Jy)
def Gl (p0:(List Int)) (p1:(List Int)):Nat→Int→Option Bool
  | 0,_=>none
  | n+1,a0=>Jx p0 p1 (Gl p0 p1 n) a0
def F2 (F:Nat) (p0:(List Int)) (p1:(List Int)):Option Bool :=
  bif (((p0.length:Nat):Int) != ((p1.length:Nat):Int)) then (some false) else (Gl p0 p1 F 0)
def Jj (a0:(List Int)):Option ((List Int)×Int) :=
  bif (decide (((a0.length:Nat):Int)>16777216)) then (some (([]:(List Int)),8)) else (some (a0,0))
def Ji (F:Nat) (p0:(List volume_Item)) (k2:(Int→(List Int)→Option ((List Int)×Int))) (a0:Int) (a2:(List Int)):Option ((List Int)×Int) :=
  bif (decide (a0<((p0.length:Nat):Int))) then ((Dg p0 a0).bind fun a4 =>
  (Js F a4).bind fun a1 =>
  bif (a1.2 != 0) then (some (([]:(List Int)),a1.2)) else ((apd 1 a2 a1.1).bind fun a3 =>
  (ck (a0+1)).bind fun a5 =>
  k2 a5 a3)) else (Jj a2)
def Fu (F:Nat) (p0:(List volume_Item)):Nat→Int→(List Int)→Option ((List Int)×Int)
  | 0,_,_=>none
  | n+1,a1,a0=>Ji F p0 (Fu F p0 n) a1 a0
def Ez (F:Nat) (p0:(List volume_Item)):Option ((List Int)×Int) :=
  bif (decide (((p0.length:Nat):Int)>1000)) then (some (([]:(List Int)),9)) else (Fu F p0 F 0 ([82,86,70,49]))
def K3:Option Bool :=
  some true
def Hs (a1:Int) (k2:(Int→Option Bool)):Option Bool :=
  (ck (a1+1)).bind fun a0 =>
  k2 a0
def K2 (p0:api_Sweep) (p1:api_Sweep) (a3:Int) (k2:(Int→Option Bool)) (k4:(Int→Option Bool)) (a2:Int):Option Bool :=
  (Dg p0.Rays a3).bind fun a4 =>
  bif (decide (a2<((a4.length:Nat):Int))) then ((Dg p0.Rays a3).bind fun a5 =>
  (Dg a5 a2).bind fun a0 =>
  (Dg p1.Rays a3).bind fun a6 =>
  (Dg a6 a2).bind fun a1 =>
  bif (!(((a0.Kind:Int)==a1.Kind)&&((((a0.Power.Lo:Int)==a1.Power.Lo)&&(((a0.Power.Hi:Int)==a1.Power.Hi)&&true))&&(((((a0.Steps.1.Lo:Int)==a1.Steps.1.Lo)&&(((a0.Steps.1.Hi:Int)==a1.Steps.1.Hi)&&true))&&((((a0.Steps.2.Lo:Int)==a1.Steps.2.Lo)&&(((a0.Steps.2.Hi:Int)==a1.Steps.2.Hi)&&true))&&true))&&(((a0.Spread:Int)==a1.Spread)&&((((a0.Ratio.Lo:Int)==a1.Ratio.Lo)&&(((a0.Ratio.Hi:Int)==a1.Ratio.Hi)&&true))&&((((a0.Match.Lo:Int)==a1.Match.Lo)&&(((a0.Match.Hi:Int)==a1.Match.Hi)&&true))&&((((a0.Turn.Lo:Int)==a1.Turn.Lo)&&(((a0.Turn.Hi:Int)==a1.Turn.Hi)&&true))&&true)))))))) then (some false) else ((ck (a2+1)).bind fun a7 =>
  k4 a7)) else (Hs a3 k2)
def Gn (p0:api_Sweep) (p1:api_Sweep) (a0:Int) (k2:(Int→Option Bool)):Nat→Int→Option Bool
  | 0,_=>none
  | n+1,a1=>K2 p0 p1 a0 k2 (Gn p0 p1 a0 k2 n) a1
def K1 (F:Nat) (p0:api_Sweep) (p1:api_Sweep) (k2:(Int→Option Bool)) (a0:Int):Option Bool :=
  bif (decide (a0<((p0.Rays.length:Nat):Int))) then ((Dg p0.Rays a0).bind fun a1 =>
  (Dg p1.Rays a0).bind fun a2 =>
  bif (((a1.length:Nat):Int) != ((a2.length:Nat):Int)) then (some false) else (Gn p0 p1 a0 k2 F 0)) else (K3)
def Fa (F:Nat) (p0:api_Sweep) (p1:api_Sweep):Nat→Int→Option Bool
  | 0,_=>none
  | n+1,a0=>K1 F p0 p1 (Fa F p0 p1 n) a0
def Ld (F:Nat) (p0:api_Sweep) (p1:api_Sweep):Option Bool :=
  bif (bif (bif (bif (!((p0.Site.Name==p1.Site.Name)&&(((p0.Site.X:Int)==p1.Site.X)&&(((p0.Site.Y:Int)==p1.Site.Y)&&(((p0.Site.Z:Int)==p1.Site.Z)&&(((p0.Site.Rose:Int)==p1.Site.Rose)&&(((p0.Site.Gates:Int)==p1.Site.Gates)&&(((p0.Site.Step:Int)==p1.Site.Step)&&(((p0.Site.Width:Int)==p1.Site.Width)&&true))))))))) then true else (p0.Tilt != p1.Tilt)) then true else (p0.Time != p1.Time)) then true else (((p0.Rays.length:Nat):Int) != ((p1.Rays.length:Nat):Int))) then (some false) else (Fa F p0 p1 F 0)
def K0:Option Bool :=
  some true
def Jz (p0:api_Field) (p1:api_Field) (k2:(Int→Option Bool)) (a0:Int):Option Bool :=
  bif (decide (a0<((p0.Vals.length:Nat):Int))) then ((Dg p0.Vals a0).bind fun a1 =>
  (Dg p1.Vals a0).bind fun a2 =>
  bif (!(((a1.Lo:Int)==a2.Lo)&&(((a1.Hi:Int)==a2.Hi)&&true))) then (some false) else ((ck (a0+1)).bind fun a3 =>
  k2 a3)) else (K0)
def Gm (p0:api_Field) (p1:api_Field):Nat→Int→Option Bool
  | 0,_=>none
  | n+1,a0=>Jz p0 p1 (Gm p0 p1 n) a0
def Lc (F:Nat) (p0:api_Field) (p1:api_Field):Option Bool :=
  bif (bif (!(((p0.Grid.X:Int)==p1.Grid.X)&&(((p0.Grid.Y:Int)==p1.Grid.Y)&&(((p0.Grid.Size:Int)==p1.Grid.Size)&&(((p0.Grid.Wide:Int)==p1.Grid.Wide)&&(((p0.Grid.High:Int)==p1.Grid.High)&&true)))))) then true else (((p0.Vals.length:Nat):Int) != ((p1.Vals.length:Nat):Int))) then (some false) else (Gm p0 p1 F 0)
def Hr (F:Nat) (p0:volume_Item) (p1:volume_Item):Option Bool :=
  (gd (((bif (bif (bif (p0.Kind==p1.Kind) then (sEq p0.Name p1.Name) else false) then (p0.Time==p1.Time) else false) then (sEq p0.Text p1.Text) else false)==true&&true)) (Ld F p0.Sweep p1.Sweep) default).bind fun a0 =>
  (gd (((bif (bif (bif (bif (p0.Kind==p1.Kind) then (sEq p0.Name p1.Name) else false) then (p0.Time==p1.Time) else false) then (sEq p0.Text p1.Text) else false) then a0 else false)==true&&true)) (Lc F p0.Field p1.Field) default).bind fun a1 =>
  some (bif (bif (bif (bif (bif (p0.Kind==p1.Kind) then (sEq p0.Name p1.Name) else false) then (p0.Time==p1.Time) else false) then (sEq p0.Text p1.Text) else false) then a0 else false) then a1 else false)
def Ht (F:Nat):Option Bool :=
  (Js F (volume_Item.mk 3 ByteArray.empty 5 (api_Sweep.mk (api_Site.mk ByteArray.empty 0 0 0 0 0 0 0) 0 0 ([]:(List (List api_Echo)))) (api_Field.mk (api_Grid.mk 0 0 0 0 0) ([]:(List api_Span))) (⟨#[97]⟩:ByteArray))).bind fun y3 =>
  (Ez F ([(volume_Item.mk 3 ByteArray.empty 5 (api_Sweep.mk (api_Site.mk ByteArray.empty 0 0 0 0 0 0 0) 0 0 ([]:(List (List api_Echo)))) (api_Field.mk (api_Grid.mk 0 0 0 0 0) ([]:(List api_Span))) (⟨#[97]⟩:ByteArray))])).bind fun y9 =>
  (D8 F y9.1).bind fun a4 =>
  bif (bif (bif (y3.2 != 0) then true else (y9.2 != 0)) then true else (a4.2.2 != 0)) then (some false) else ((F2 F y3.1 ([0,5,4,6,2,97,183,135,165,144,1])).bind fun aD =>
  bif (!aD) then (some false) else ((apd 1 ([82,86,70,49]) y3.1).bind fun a7 =>
  (F2 F y9.1 a7).bind fun aE =>
  bif (bif (bif (!aE) then true else (a4.2.1 != ((y9.1.length:Nat):Int))) then true else (((a4.1.length:Nat):Int) != 1)) then (some false) else ((Dg a4.1 0).bind fun aA =>
  (Hr F aA (volume_Item.mk 3 ByteArray.empty 5 (api_Sweep.mk (api_Site.mk ByteArray.empty 0 0 0 0 0 0 0) 0 0 ([]:(List (List api_Echo)))) (api_Field.mk (api_Grid.mk 0 0 0 0 0) ([]:(List api_Span))) (⟨#[97]⟩:ByteArray))).bind fun aF =>
  bif (!aF) then (some false) else ((Dg y9.1 8).bind fun aB =>
  (Dg y9.1 8).bind fun aG =>
  (Vi y9.1 8 (IntKind.u8.wrap (aB+1))).bind fun a8 =>
  (D8 F a8).bind fun a3 =>
  (D8 F ([82,86,70,49])).bind fun a1 =>
  (D8 F ([82,86,70,49,0,5,4])).bind fun a2 =>
  (D8 F ([82,86,70,50])).bind fun a5 =>
  (apd 1 ([120,0,121]) y3.1).bind fun a6 =>
  (M9 F a6).bind fun a0 =>
  bif (bif (bif (bif (bif (bif (bif (bif (bif (bif (a3.2.2==15) then (a1.2.2==0) else false) then (a2.2.2==16) else false) then (a5.2.2==7) else false) then (a0.2.2==0) else false) then (a3.2.1==4) else false) then (((a1.1.length:Nat):Int)==0) else false) then (a1.2.1==4) else false) then (a2.2.1==4) else false) then (((a0.1.length:Nat):Int)==1) else false) then ((Dg a0.1 0).bind fun a9 =>
  (Hr F a9 (volume_Item.mk 3 ByteArray.empty 5 (api_Sweep.mk (api_Site.mk ByteArray.empty 0 0 0 0 0 0 0) 0 0 ([]:(List (List api_Echo)))) (api_Field.mk (api_Grid.mk 0 0 0 0 0) ([]:(List api_Span))) (⟨#[97]⟩:ByteArray))).bind fun aC =>
  some (bif (bif (bif (bif (bif (bif (bif (bif (bif (bif (bif (a3.2.2==15) then (a1.2.2==0) else false) then (a2.2.2==16) else false) then (a5.2.2==7) else false) then (a0.2.2==0) else false) then (a3.2.1==4) else false) then (((a1.1.length:Nat):Int)==0) else false) then (a1.2.1==4) else false) then (a2.2.1==4) else false) then (((a0.1.length:Nat):Int)==1) else false) then aC else false) then (a0.2.1==1) else false)) else (some (bif (bif (bif (bif (bif (bif (bif (bif (bif (bif (bif (a3.2.2==15) then (a1.2.2==0) else false) then (a2.2.2==16) else false) then (a5.2.2==7) else false) then (a0.2.2==0) else false) then (a3.2.1==4) else false) then (((a1.1.length:Nat):Int)==0) else false) then (a1.2.1==4) else false) then (a2.2.1==4) else false) then (((a0.1.length:Nat):Int)==1) else false) then false else false) then (a0.2.1==1) else false))))))
def A9 (F:Nat) (p0:law12_Thing) (p1:Int) (p2:Int):Option Int :=
  bif (((p0.Numbers.length:Nat):Int)==0) then (some 0) else ((Ju p1 ((p0.Numbers.length:Nat):Int)).bind fun x5 =>
  (Dg p0.Numbers x5).bind fun u6 =>
  (ck u6).bind fun x7 =>
  (Ju x7 p2).bind fun x8 =>
  (ck (x8+p2)).bind fun x9 =>
  (Ju x9 p2).bind fun a0 =>
  some a0)
def Am (F:Nat) (p0:law12_Thing) (p1:Int) (p2:Int) (p3:Int):Option api_Span :=
  (A9 F (law12_Thing.mk p0.Kind p0.Time (p0.Sides.1,p0.Sides.2.1,p0.Sides.2.2) p0.Numbers) p1 300).bind fun y6 =>
  (ck (p2+y6)).bind fun x7 =>
  (ck (p1+1)).bind fun x9 =>
  (A9 F (law12_Thing.mk p0.Kind p0.Time (p0.Sides.1,p0.Sides.2.1,p0.Sides.2.2) p0.Numbers) x9 p3).bind fun a1 =>
  (ck (x7+a1)).bind fun a0 =>
  some (api_Span.mk x7 a0)
def F3 (F:Nat) (p0:law12_Thing) (p1:Int):Option api_Echo :=
  (A9 F (law12_Thing.mk p0.Kind p0.Time (p0.Sides.1,p0.Sides.2.1,p0.Sides.2.2) p0.Numbers) p1 4).bind fun y6 =>
  bif (y6==0) then ((ck (p1+1)).bind fun x7 =>
  (A9 F (law12_Thing.mk p0.Kind p0.Time (p0.Sides.1,p0.Sides.2.1,p0.Sides.2.2) p0.Numbers) x7 200).bind fun y8 =>
  some (api_Echo.mk 1 (api_Span.mk 0 y8) ((api_Span.mk 0 0),(api_Span.mk 0 0)) 0 (api_Span.mk 0 0) (api_Span.mk 0 0) (api_Span.mk 0 0))) else (bif (y6==1) then ((ck (p1+1)).bind fun x9 =>
  (Am F (law12_Thing.mk p0.Kind p0.Time (p0.Sides.1,p0.Sides.2.1,p0.Sides.2.2) p0.Numbers) x9 1 1000).bind fun a9 =>
  (ck (p1+3)).bind fun a0 =>
  (Am F (law12_Thing.mk p0.Kind p0.Time (p0.Sides.1,p0.Sides.2.1,p0.Sides.2.2) p0.Numbers) a0 0 50000).bind fun aA =>
  (ck (p1+2)).bind fun a1 =>
  (Am F (law12_Thing.mk p0.Kind p0.Time (p0.Sides.1,p0.Sides.2.1,p0.Sides.2.2) p0.Numbers) a1 0 500).bind fun aB =>
  (ck (p1+5)).bind fun a2 =>
  (A9 F (law12_Thing.mk p0.Kind p0.Time (p0.Sides.1,p0.Sides.2.1,p0.Sides.2.2) p0.Numbers) a2 65536).bind fun aC =>
  some (api_Echo.mk 2 a9 ((api_Span.mk 0 0),(api_Span.mk 0 0)) aC aA aB (api_Span.mk 0 0))) else (bif (y6==2) then ((ck (p1+1)).bind fun a3 =>
  (Am F (law12_Thing.mk p0.Kind p0.Time (p0.Sides.1,p0.Sides.2.1,p0.Sides.2.2) p0.Numbers) a3 1 1000).bind fun aD =>
  (ck (p1+3)).bind fun a4 =>
  (Am F (law12_Thing.mk p0.Kind p0.Time (p0.Sides.1,p0.Sides.2.1,p0.Sides.2.2) p0.Numbers) a4 0 50000).bind fun aE =>
  (ck (p1+2)).bind fun a5 =>
  (Am F (law12_Thing.mk p0.Kind p0.Time (p0.Sides.1,p0.Sides.2.1,p0.Sides.2.2) p0.Numbers) a5 0 500).bind fun aF =>
  (ck (p1+5)).bind fun a6 =>
  (A9 F (law12_Thing.mk p0.Kind p0.Time (p0.Sides.1,p0.Sides.2.1,p0.Sides.2.2) p0.Numbers) a6 3000).bind fun aG =>
  (Am F (law12_Thing.mk p0.Kind p0.Time (p0.Sides.1,p0.Sides.2.1,p0.Sides.2.2) p0.Numbers) p1 (-200) 30000).bind fun aH =>
  (ck (p1+4)).bind fun a7 =>
  (Am F (law12_Thing.mk p0.Kind p0.Time (p0.Sides.1,p0.Sides.2.1,p0.Sides.2.2) p0.Numbers) a7 (-32768) 3).bind fun aI =>
  (ck (p1+1)).bind fun a8 =>
  (Am F (law12_Thing.mk p0.Kind p0.Time (p0.Sides.1,p0.Sides.2.1,p0.Sides.2.2) p0.Numbers) a8 500 40).bind fun aJ =>
  some (api_Echo.mk 3 aD (aH,aI) aG aE aF aJ)) else (some (api_Echo.mk 1 (api_Span.mk 0 0) ((api_Span.mk 0 0),(api_Span.mk 0 0)) 0 (api_Span.mk 0 0) (api_Span.mk 0 0) (api_Span.mk 0 0)))))
def Er (x9:Int) (a0:(List Int)):Option volume_Item :=
  some (volume_Item.mk 3 ByteArray.empty x9 (api_Sweep.mk (api_Site.mk ByteArray.empty 0 0 0 0 0 0 0) 0 0 ([]:(List (List api_Echo)))) (api_Field.mk (api_Grid.mk 0 0 0 0 0) ([]:(List api_Span))) (bst a0))
def G9 (F:Nat) (p0:law12_Thing) (u8:ByteArray) (x9:Int) (a3:Int) (k3:((List Int)→Int→Option volume_Item)) (a1:(List Int)) (a0:Int):Option volume_Item :=
  bif (decide (a0<a3)) then ((A9 F (law12_Thing.mk p0.Kind p0.Time (p0.Sides.1,p0.Sides.2.1,p0.Sides.2.2) p0.Numbers) a0 95).bind fun a6 =>
  (ck (32+a6)).bind fun a4 =>
  (apd 1 a1 ([IntKind.u8.wrap a4])).bind fun a2 =>
  (ck (a0+1)).bind fun a5 =>
  k3 a2 a5) else (Er x9 a1)
def Dv (F:Nat) (p0:law12_Thing) (u8:ByteArray) (x9:Int) (a0:Int):Nat→(List Int)→Int→Option volume_Item
  | 0,_,_=>none
  | n+1,a1,a2=>G9 F p0 u8 x9 a0 (Dv F p0 u8 x9 a0 n) a1 a2
def Gc (F:Nat) (p0:law12_Thing) (u8:ByteArray) (x9:Int):Option volume_Item :=
  (ck p0.Sides.1).bind fun a0 =>
  (Ju a0 201).bind fun a1 =>
  Dv F p0 u8 x9 a1 F ([]) 0
def Es (u8:ByteArray) (x9:Int) (a1:Int) (a2:Int) (a3:Int) (a4:Int) (a6:Int) (a7:Int) (a5:Int) (a8:Int) (a0:(List (List api_Echo))):Option volume_Item :=
  some (volume_Item.mk 1 ByteArray.empty 0 (api_Sweep.mk (api_Site.mk u8 a4 (IntKind.i64.wrap (0-a6)) a7 a1 a2 a5 a3) a8 x9 a0) (api_Field.mk (api_Grid.mk 0 0 0 0 0) ([]:(List api_Span))) ByteArray.empty)
def Gd (a1:Int) (k5:((List (List api_Echo))→Int→Option volume_Item)) (a0:(List (List api_Echo))):Option volume_Item :=
  (ck (a1+1)).bind fun a2 =>
  k5 a0 a2
def Ge (a0:(List (List api_Echo))) (a3:Int) (k5:((List (List api_Echo))→Int→Option volume_Item)) (a1:(List api_Echo)):Option volume_Item :=
  (apd 24 a0 ([a1])).bind fun a2 =>
  Gd a3 k5 a2
def Gb (F:Nat) (p0:law12_Thing) (a3:Int) (a5:(List (List api_Echo))) (a4:Int) (k5:((List (List api_Echo))→Int→Option volume_Item)) (k8:((List api_Echo)→Int→Option volume_Item)) (a2:(List api_Echo)) (a1:Int):Option volume_Item :=
  bif (decide (a1<a3)) then ((ck (a4*a3)).bind fun a7 =>
  (ck (a7+a1)).bind fun a8 =>
  (Ni a8 2).bind fun a9 =>
  (F3 F (law12_Thing.mk p0.Kind p0.Time (p0.Sides.1,p0.Sides.2.1,p0.Sides.2.2) p0.Numbers) a9).bind fun a0 =>
  (apd 112 a2 ([(api_Echo.mk a0.Kind a0.Power ((api_Span.mk a0.Steps.1.Lo a0.Steps.1.Hi),(api_Span.mk a0.Steps.2.Lo a0.Steps.2.Hi)) a0.Spread a0.Ratio a0.Match a0.Turn)])).bind fun a6 =>
  (ck (a1+1)).bind fun aA =>
  k8 a6 aA) else (Ge a5 a4 k5 a2)
def Dw (F:Nat) (p0:law12_Thing) (a1:Int) (a0:(List (List api_Echo))) (a2:Int) (k5:((List (List api_Echo))→Int→Option volume_Item)):Nat→(List api_Echo)→Int→Option volume_Item
  | 0,_,_=>none
  | n+1,a3,a4=>Gb F p0 a1 a0 a2 k5 (Dw F p0 a1 a0 a2 k5 n) a3 a4
def Ga (F:Nat) (p0:law12_Thing) (u8:ByteArray) (x9:Int) (a3:Int) (a1:Int) (a4:Int) (a5:Int) (a8:Int) (a9:Int) (a6:Int) (aA:Int) (a7:Int) (k5:((List (List api_Echo))→Int→Option volume_Item)) (a0:(List (List api_Echo))) (a2:Int):Option volume_Item :=
  bif (decide (a2<a7)) then (Dw F p0 a1 a0 a2 k5 F ([]) 0) else (Es u8 x9 a3 a1 a4 a5 a8 a9 a6 aA a0)
def D1 (F:Nat) (p0:law12_Thing) (u8:ByteArray) (x9:Int) (a0:Int) (a1:Int) (a2:Int) (a3:Int) (a6:Int) (a7:Int) (a4:Int) (a8:Int) (a5:Int):Nat→(List (List api_Echo))→Int→Option volume_Item
  | 0,_,_=>none
  | n+1,a9,aA=>Ga F p0 u8 x9 a0 a1 a2 a3 a6 a7 a4 a8 a5 (D1 F p0 u8 x9 a0 a1 a2 a3 a6 a7 a4 a8 a5 n) a9 aA
def Et (u8:ByteArray) (x9:Int) (a1:Int) (a2:Int) (a3:Int) (a5:Int) (a4:Int) (a0:(List api_Span)):Option volume_Item :=
  some (volume_Item.mk 2 u8 x9 (api_Sweep.mk (api_Site.mk ByteArray.empty 0 0 0 0 0 0 0) 0 0 ([]:(List (List api_Echo)))) (api_Field.mk (api_Grid.mk a3 (IntKind.i64.wrap (0-a5)) a4 a1 a2) a0) ByteArray.empty)
def Fy (F:Nat) (p0:law12_Thing) (u8:ByteArray) (x9:Int) (a4:Int) (a5:Int) (a6:Int) (aC:Int) (a7:Int) (a8:Int) (a2:((List api_Span)→Int→Option volume_Item)) (a1:(List api_Span)) (a0:Int):Option volume_Item :=
  bif (decide (a0<a8)) then ((Ni a0 2).bind fun a9 =>
  (ck (5+a0)).bind fun aA =>
  (Am F (law12_Thing.mk p0.Kind p0.Time (p0.Sides.1,p0.Sides.2.1,p0.Sides.2.2) p0.Numbers) a9 0 aA).bind fun aD =>
  (apd 16 a1 ([aD])).bind fun a3 =>
  (ck (a0+1)).bind fun aB =>
  a2 a3 aB) else (Et u8 x9 a4 a5 a6 aC a7 a1)
def Dm (F:Nat) (p0:law12_Thing) (u8:ByteArray) (x9:Int) (a0:Int) (a1:Int) (a2:Int) (a5:Int) (a3:Int) (a4:Int):Nat→(List api_Span)→Int→Option volume_Item
  | 0,_,_=>none
  | n+1,a6,a7=>Fy F p0 u8 x9 a0 a1 a2 a5 a3 a4 (Dm F p0 u8 x9 a0 a1 a2 a5 a3 a4 n) a6 a7
def F4 (F:Nat) (p0:law12_Thing):Option volume_Item :=
  (A9 F (law12_Thing.mk p0.Kind p0.Time (p0.Sides.1,p0.Sides.2.1,p0.Sides.2.2) p0.Numbers) 0 3).bind fun y7 =>
  (Dg ([(⟨#[97]⟩:ByteArray),(⟨#[98,95,49]⟩:ByteArray),(⟨#[122,122,122,122,122,122,122,122,122,122,122,122]⟩:ByteArray)]) y7).bind fun u8 =>
  (ck p0.Time).bind fun x9 =>
  (Ju p0.Kind 3).bind fun a0 =>
  bif (a0==0) then ((ck p0.Sides.1).bind fun a4 =>
  (Ju a4 2).bind fun a5 =>
  (ck (1+a5)).bind fun a1 =>
  (ck p0.Sides.2.1).bind fun a6 =>
  (Ju a6 4).bind fun a7 =>
  (ck (1+a7)).bind fun a8 =>
  (ck p0.Sides.2.2).bind fun a9 =>
  (Ju a9 9).bind fun aA =>
  (A9 F (law12_Thing.mk p0.Kind p0.Time (p0.Sides.1,p0.Sides.2.1,p0.Sides.2.2) p0.Numbers) 1 2000).bind fun aL =>
  (ck (aL-1000)).bind fun aB =>
  (A9 F (law12_Thing.mk p0.Kind p0.Time (p0.Sides.1,p0.Sides.2.1,p0.Sides.2.2) p0.Numbers) 2 900).bind fun aM =>
  (A9 F (law12_Thing.mk p0.Kind p0.Time (p0.Sides.1,p0.Sides.2.1,p0.Sides.2.2) p0.Numbers) 3 20001).bind fun aN =>
  (A9 F (law12_Thing.mk p0.Kind p0.Time (p0.Sides.1,p0.Sides.2.1,p0.Sides.2.2) p0.Numbers) 4 1951).bind fun aO =>
  (ck (50+aO)).bind fun aC =>
  (A9 F (law12_Thing.mk p0.Kind p0.Time (p0.Sides.1,p0.Sides.2.1,p0.Sides.2.2) p0.Numbers) 5 257).bind fun aP =>
  (ck (4*a1)).bind fun aD =>
  D1 F p0 u8 x9 a1 a8 aA aB aM aN aC aP aD F ([]) 0) else (bif (a0==1) then ((ck p0.Sides.1).bind fun aE =>
  (Ju aE 5).bind fun aF =>
  (ck (1+aF)).bind fun a2 =>
  (ck p0.Sides.2.1).bind fun aG =>
  (Ju aG 4).bind fun aH =>
  (ck (1+aH)).bind fun a3 =>
  (A9 F (law12_Thing.mk p0.Kind p0.Time (p0.Sides.1,p0.Sides.2.1,p0.Sides.2.2) p0.Numbers) 1 2000).bind fun aQ =>
  (ck (aQ-1000)).bind fun aI =>
  (A9 F (law12_Thing.mk p0.Kind p0.Time (p0.Sides.1,p0.Sides.2.1,p0.Sides.2.2) p0.Numbers) 2 900).bind fun aR =>
  (A9 F (law12_Thing.mk p0.Kind p0.Time (p0.Sides.1,p0.Sides.2.1,p0.Sides.2.2) p0.Numbers) 3 10000).bind fun aS =>
  (ck (1+aS)).bind fun aJ =>
  (ck (a2*a3)).bind fun aK =>
  Dm F p0 u8 x9 a2 a3 aI aR aJ aK F ([]) 0) else (Gc F p0 u8 x9))
def Lu (a0:(List volume_Item)):Option ((List volume_Item)×Bool) :=
  some (a0,true)
def Lt (F:Nat) (p0:(List law12_Thing)) (k2:(Int→(List volume_Item)→Option ((List volume_Item)×Bool))) (a1:Int) (a2:(List volume_Item)):Option ((List volume_Item)×Bool) :=
  bif (decide (a1<((p0.length:Nat):Int))) then ((Dg p0 a1).bind fun a0 =>
  (F4 F (law12_Thing.mk a0.Kind a0.Time (a0.Sides.1,a0.Sides.2.1,a0.Sides.2.2) a0.Numbers)).bind fun a5 =>
  (apd 224 a2 ([a5])).bind fun a3 =>
  (ck (a1+1)).bind fun a4 =>
  k2 a4 a3) else (Lu a2)
def J5 (F:Nat) (p0:(List law12_Thing)):Nat→Int→(List volume_Item)→Option ((List volume_Item)×Bool)
  | 0,_,_=>none
  | n+1,a1,a0=>Lt F p0 (J5 F p0 n) a1 a0
def He (F:Nat) (p0:(List law12_Thing)):Option ((List volume_Item)×Bool) :=
  bif (decide (((p0.length:Nat):Int)>8)) then (some (([]:(List volume_Item)),false)) else (J5 F p0 F 0 ([]))
def Kg (p0:volume_sweep):Int :=
  p0.Sweep.Time
def Kd (p0:volume_field):Int :=
  p0.time
def L0 (p0:volume_note):Int :=
  p0.time
def Kh (F:Nat) (p0:volume_thing):Option Int:=p0.cs none (fun y=>some (Kg y)) (fun y=>some (Kd y)) (fun y=>some (L0 y))
def J0 (a1:(List volume_entry)) (a0:(List Int)):Option ((List Int)×Int) :=
  bif (decide (((a1.length:Nat):Int)>1000)) then (some (([]:(List Int)),9)) else (bif (decide (((a0.length:Nat):Int)>16777216)) then (some (([]:(List Int)),8)) else (some (a0,0)))
def K9 (a1:(List volume_entry)) (k3:((List Int)→Int→Option ((List Int)×Int))) (a2:(List Int)) (a0:Int):Option ((List Int)×Int) :=
  bif (decide (a0<((a1.length:Nat):Int))) then ((Dg a1 a0).bind fun a4 =>
  (apd 1 a2 a4.block).bind fun a3 =>
  (ck (a0+1)).bind fun a5 =>
  k3 a3 a5) else (J0 a1 a2)
def Fc (a0:(List volume_entry)):Nat→(List Int)→Int→Option ((List Int)×Int)
  | 0,_,_=>none
  | n+1,a1,a2=>K9 a0 (Fc a0 n) a1 a2
def Hw (F:Nat) (a0:(List volume_entry)):Option ((List Int)×Int) :=
  (Hl F a0).bind fun a1 =>
  (G2 F a1).bind fun a2 =>
  Fc a2 F ([82,86,70,49]) 0
def Gr (a1:Int) (k4:(Int→(List volume_entry)→Option ((List Int)×Int))) (a0:(List volume_entry)):Option ((List Int)×Int) :=
  (ck (a1+1)).bind fun a2 =>
  k4 a2 a0
def Ka (F:Nat) (a5:Int) (k4:(Int→(List volume_entry)→Option ((List Int)×Int))) (a3:((List volume_Item)×Int×Int)) (k6:(Int→(List volume_entry)→Option ((List Int)×Int))) (a0:Int) (a1:(List volume_entry)):Option ((List Int)×Int) :=
  bif (decide (a0<((a3.1.length:Nat):Int))) then ((Dg a3.1 a0).bind fun a2 =>
  (Kh F (F8 a2)).bind fun a7 =>
  (H5 F (F8 a2)).bind fun a8 =>
  (apd 32 a1 ([(volume_entry.mk a7 a8)])).bind fun a4 =>
  (ck (a0+1)).bind fun a6 =>
  k6 a6 a4) else (Gr a5 k4 a1)
def Eg (F:Nat) (a0:Int) (k4:(Int→(List volume_entry)→Option ((List Int)×Int))) (a1:((List volume_Item)×Int×Int)):Nat→Int→(List volume_entry)→Option ((List Int)×Int)
  | 0,_,_=>none
  | n+1,a3,a2=>Ka F a0 k4 a1 (Eg F a0 k4 a1 n) a3 a2
def Gq (F:Nat) (p0:(List Int)) (p1:(List Int)) (k4:(Int→(List volume_entry)→Option ((List Int)×Int))) (a0:Int) (a2:(List volume_entry)):Option ((List Int)×Int) :=
  bif (decide (a0<((2:Nat):Int))) then ((Dg ([p0,p1]) a0).bind fun a3 =>
  (D8 F a3).bind fun a1 =>
  bif (a1.2.2 != 0) then (some (([]:(List Int)),a1.2.2)) else (Eg F a0 k4 a1 F 0 a2)) else (Hw F a2)
def Fe (F:Nat) (p0:(List Int)) (p1:(List Int)):Nat→Int→(List volume_entry)→Option ((List Int)×Int)
  | 0,_,_=>none
  | n+1,a1,a0=>Gq F p0 p1 (Fe F p0 p1 n) a1 a0
def Ef (F:Nat) (p0:(List Int)) (p1:(List Int)):Option ((List Int)×Int) :=
  Fe F p0 p1 F 0 ([])
def Lw:Option Bool :=
  some false
def Lv (F:Nat) (p0:volume_Item) (p1:(List volume_Item)) (k2:(Int→Option Bool)) (a0:Int):Option Bool :=
  bif (decide (a0<((p1.length:Nat):Int))) then ((Dg p1 a0).bind fun a1 =>
  (Hr F p0 a1).bind fun a3 =>
  bif a3 then (some true) else ((ck (a0+1)).bind fun a2 =>
  k2 a2)) else (Lw)
def J6 (F:Nat) (p0:volume_Item) (p1:(List volume_Item)):Nat→Int→Option Bool
  | 0,_=>none
  | n+1,a0=>Lv F p0 p1 (J6 F p0 p1 n) a0
def F5 (F:Nat) (p0:volume_Item) (p1:(List volume_Item)):Option Bool :=
  J6 F p0 p1 F 0
def E4 (p0:volume_Item):Int :=
  bif (p0.Kind==1) then (p0.Sweep.Time) else (p0.Time)
def Fo (F:Nat):Option Bool :=
  (Ht F).bind fun a0 =>
  some a0
def Fk (F:Nat) (a5:((List volume_Item)×Int×Int)) (a1:(List volume_Item)) (k3:(Int→Option Bool)) (a0:Int):Option Bool :=
  bif (decide (a0<((a1.length:Nat):Int))) then ((Dg a1 a0).bind fun a2 =>
  (F5 F a2 a5.1).bind fun a4 =>
  bif (!a4) then (some false) else ((ck (a0+1)).bind fun a3 =>
  k3 a3)) else (Fo F)
def Dc (F:Nat) (a1:((List volume_Item)×Int×Int)) (a0:(List volume_Item)):Nat→Int→Option Bool
  | 0,_=>none
  | n+1,a2=>Fk F a1 a0 (Dc F a1 a0 n) a2
def E3 (F:Nat) (a2:((List volume_Item)×Bool)) (a3:((List volume_Item)×Bool)) (a4:((List volume_Item)×Int×Int)):Option Bool :=
  (apd 224 ([]:List volume_Item) a2.1).bind fun a0 =>
  (apd 224 a0 a3.1).bind fun a1 =>
  Dc F a4 a1 F 0
def Ch (a0:Int) (k4:(Int→Option Bool)):Option Bool :=
  (ck (a0+1)).bind fun a1 =>
  k4 a1
def Da (F:Nat) (a5:((List volume_Item)×Bool)) (a6:((List volume_Item)×Bool)) (aB:((List volume_Item)×Int×Int)) (a0:Int) (k4:(Int→Option Bool)) (a2:volume_Item) (a1:Int):Option Bool :=
  bif (decide (a0>0)) then ((gd (((a1 != 1)==false&&true)) (F5 F a2 a5.1) default).bind fun a3 =>
  (gd (((!a3)==true&&((a1 != 1)==false&&true))) (F5 F a2 a6.1) default).bind fun a4 =>
  (gd (((decide (a0>0))==true&&((bif (a1 != 1) then true else (bif (!a3) then (!a4) else false))==false&&true))) (ck (a0-1)) 0).bind fun a9 =>
  bif (bif (a1 != 1) then true else (bif (!a3) then (!a4) else false)) then (bif (bif (bif (a1 != 1) then true else (bif (!a3) then (!a4) else false)) then true else (bif (decide (a0>0)) then (decide (0<0)) else false)) then (some false) else (Ch a0 k4)) else ((Dg aB.1 a9).bind fun a8 =>
  bif (bif (bif (a1 != 1) then true else (bif (!a3) then (!a4) else false)) then true else (bif (decide (a0>0)) then (decide ((E4 a2)<(E4 a8))) else false)) then (some false) else (Ch a0 k4))) else ((gd (((a1 != 1)==false&&true)) (F5 F a2 a5.1) default).bind fun a7 =>
  (gd (((!a7)==true&&((a1 != 1)==false&&true))) (F5 F a2 a6.1) default).bind fun aA =>
  bif (bif (bif (a1 != 1) then true else (bif (!a7) then (!aA) else false)) then true else (bif (decide (a0>0)) then (decide (0<0)) else false)) then (some false) else (Ch a0 k4))
def Db (a0:Int) (k7:(Int→Int→Option Bool)) (a1:Int):Option Bool :=
  (ck (a0+1)).bind fun a2 =>
  k7 a2 a1
def Fm (F:Nat) (a7:((List volume_Item)×Bool)) (a8:((List volume_Item)×Bool)) (a2:((List volume_Item)×Int×Int)) (a5:Int) (k4:(Int→Option Bool)) (a3:volume_Item) (k7:(Int→Int→Option Bool)) (a0:Int) (a1:Int):Option Bool :=
  bif (decide (a0<((a2.1.length:Nat):Int))) then ((Dg a2.1 a0).bind fun a4 =>
  (Hr F a3 a4).bind fun a9 =>
  bif a9 then ((ck (a1+1)).bind fun a6 =>
  Db a0 k7 a6) else (Db a0 k7 a1)) else (Da F a7 a8 a2 a5 k4 a3 a1)
def Dd (F:Nat) (a2:((List volume_Item)×Bool)) (a3:((List volume_Item)×Bool)) (a4:((List volume_Item)×Int×Int)) (a1:Int) (k4:(Int→Option Bool)) (a0:volume_Item):Nat→Int→Int→Option Bool
  | 0,_,_=>none
  | n+1,a5,a6=>Fm F a2 a3 a4 a1 k4 a0 (Dd F a2 a3 a4 a1 k4 a0 n) a5 a6
def Fl (F:Nat) (a2:((List volume_Item)×Bool)) (a3:((List volume_Item)×Bool)) (a0:((List volume_Item)×Int×Int)) (k4:(Int→Option Bool)) (a1:Int):Option Bool :=
  bif (decide (a1<((a0.1.length:Nat):Int))) then ((Dg a0.1 a1).bind fun a4 =>
  Dd F a2 a3 a0 a1 k4 a4 F 0 0) else (E3 F a2 a3 a0)
def Ci (F:Nat) (a0:((List volume_Item)×Bool)) (a1:((List volume_Item)×Bool)) (a2:((List volume_Item)×Int×Int)):Nat→Int→Option Bool
  | 0,_=>none
  | n+1,a3=>Fl F a0 a1 a2 (Ci F a0 a1 a2 n) a3
def F9 (F:Nat) (p0:(List law12_Thing)) (p1:(List law12_Thing)) (p2:(List law12_Thing)):Option Bool :=
  (He F p0).bind fun a6 =>
  (He F p1).bind fun a7 =>
  (He F p2).bind fun aD =>
  bif (bif (bif (!a6.2) then true else (!a7.2)) then true else (!aD.2)) then ((Ht F).bind fun aG =>
  some aG) else ((Ez F a6.1).bind fun a8 =>
  (Ez F a7.1).bind fun a9 =>
  (Ez F aD.1).bind fun aB =>
  bif (bif (bif (a8.2 != 0) then true else (a9.2 != 0)) then true else (aB.2 != 0)) then (some false) else ((Ef F a8.1 a9.1).bind fun a1 =>
  (Ef F a9.1 a8.1).bind fun a2 =>
  (Ef F a9.1 aB.1).bind fun a3 =>
  (Ef F a1.1 aB.1).bind fun a0 =>
  (Ef F a8.1 a3.1).bind fun a4 =>
  (Ef F a0.1 a0.1).bind fun a5 =>
  (gd (((bif (bif (bif (bif (bif (a1.2 != 0) then true else (a2.2 != 0)) then true else (a3.2 != 0)) then true else (a0.2 != 0)) then true else (a4.2 != 0)) then true else (a5.2 != 0))==false&&true)) (F2 F a1.1 a2.1) default).bind fun aC =>
  (gd (((bif (bif (bif (bif (bif (bif (a1.2 != 0) then true else (a2.2 != 0)) then true else (a3.2 != 0)) then true else (a0.2 != 0)) then true else (a4.2 != 0)) then true else (a5.2 != 0)) then true else (!aC))==false&&true)) (F2 F a0.1 a4.1) default).bind fun aE =>
  (gd (((bif (bif (bif (bif (bif (bif (bif (a1.2 != 0) then true else (a2.2 != 0)) then true else (a3.2 != 0)) then true else (a0.2 != 0)) then true else (a4.2 != 0)) then true else (a5.2 != 0)) then true else (!aC)) then true else (!aE))==false&&true)) (F2 F a0.1 a5.1) default).bind fun aH =>
  bif (bif (bif (bif (bif (bif (bif (bif (bif (a1.2 != 0) then true else (a2.2 != 0)) then true else (a3.2 != 0)) then true else (a0.2 != 0)) then true else (a4.2 != 0)) then true else (a5.2 != 0)) then true else (!aC)) then true else (!aE)) then true else (!aH)) then (some false) else ((D8 F a1.1).bind fun aA =>
  (gd (((aA.2.2 != 0)==false&&true)) (ck (((a6.1.length:Nat):Int)+((a7.1.length:Nat):Int))) 0).bind fun aF =>
  bif (bif (aA.2.2 != 0) then true else (decide (((aA.1.length:Nat):Int)>aF))) then (some false) else (Ci F a6 a7 aA F 0))))
end Go.Proofs.YtifbomimeodibaaGreat
