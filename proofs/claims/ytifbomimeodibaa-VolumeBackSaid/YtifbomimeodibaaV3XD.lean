import Derived.Test.YtifbomimeodibaaV3EB
namespace Go.Proofs.Ytifbomimeodibaa
open Go Go.RowKit Go.Eng
set_option maxRecDepth 10000
set_option maxHeartbeats 4000000
set_option linter.unusedVariables false
set_option linter.unusedSimpArgs false
structure law12_Thing where
  Kind:Int
  Time:Int
  Sides:(Int×Int×Int)
  Numbers:(List Int)
  deriving Inhabited,DecidableEq
structure api_Span where
  Lo:Int
  Hi:Int
  deriving Inhabited,DecidableEq
def api_Span.cells (x:api_Span):List Value:=[.int .i64 x.Lo,.int .i64 x.Hi]
theorem api_Span.cells_len (x:api_Span):(api_Span.cells x).length=2:=rfl
structure api_Echo where
  Kind:Int
  Power:api_Span
  Steps:(api_Span×api_Span)
  Spread:Int
  Ratio:api_Span
  Match:api_Span
  Turn:api_Span
  deriving Inhabited,DecidableEq
def api_Echo.cells (x:api_Echo):List Value:=[.int .i64 x.Kind,.int .i64 x.Power.Lo,.int .i64 x.Power.Hi,.int .i64 x.Steps.1.Lo,.int .i64 x.Steps.1.Hi,.int .i64 x.Steps.2.Lo,.int .i64 x.Steps.2.Hi,.int .i64 x.Spread,.int .i64 x.Ratio.Lo,.int .i64 x.Ratio.Hi,.int .i64 x.Match.Lo,.int .i64 x.Match.Hi,.int .i64 x.Turn.Lo,.int .i64 x.Turn.Hi]
theorem api_Echo.cells_len (x:api_Echo):(api_Echo.cells x).length=14:=rfl
structure api_Site where
  Name:ByteArray
  X:Int
  Y:Int
  Z:Int
  Rose:Int
  Gates:Int
  Step:Int
  Width:Int
  deriving Inhabited,DecidableEq
def api_Site.cells (x:api_Site):List Value:=[.string x.Name,.int .i64 x.X,.int .i64 x.Y,.int .i64 x.Z,.int .i64 x.Rose,.int .i64 x.Gates,.int .i64 x.Step,.int .i64 x.Width]
theorem api_Site.cells_len (x:api_Site):(api_Site.cells x).length=8:=rfl
structure api_Sweep where
  Site:api_Site
  Tilt:Int
  Time:Int
  Rays:(List (List api_Echo))
  deriving Inhabited,DecidableEq
structure api_Grid where
  X:Int
  Y:Int
  Size:Int
  Wide:Int
  High:Int
  deriving Inhabited,DecidableEq
def api_Grid.cells (x:api_Grid):List Value:=[.int .i64 x.X,.int .i64 x.Y,.int .i64 x.Size,.int .i64 x.Wide,.int .i64 x.High]
theorem api_Grid.cells_len (x:api_Grid):(api_Grid.cells x).length=5:=rfl
structure api_Field where
  Grid:api_Grid
  Vals:(List api_Span)
  deriving Inhabited,DecidableEq
structure volume_Item where
  Kind:Int
  Name:ByteArray
  Time:Int
  Sweep:api_Sweep
  Field:api_Field
  Text:ByteArray
  deriving Inhabited,DecidableEq
structure volume_sweep where
  Sweep:api_Sweep
  deriving Inhabited,DecidableEq
structure volume_field where
  key:ByteArray
  time:Int
  Field:api_Field
  deriving Inhabited,DecidableEq
structure volume_note where
  time:Int
  text:ByteArray
  deriving Inhabited,DecidableEq
def volume_note.cells (x:volume_note):List Value:=[.int .i64 x.time,.string x.text]
theorem volume_note.cells_len (x:volume_note):(volume_note.cells x).length=2:=rfl
structure volume_writer where
  b:(List Int)
  deriving Inhabited,DecidableEq
structure volume_reader where
  b:(List Int)
  deriving Inhabited,DecidableEq
abbrev api_Echo.ar (x:api_Echo):Array Value:=#[.int .i64 x.Kind,.int .i64 x.Power.Lo,.int .i64 x.Power.Hi,.int .i64 x.Steps.1.Lo,.int .i64 x.Steps.1.Hi,.int .i64 x.Steps.2.Lo,.int .i64 x.Steps.2.Hi,.int .i64 x.Spread,.int .i64 x.Ratio.Lo,.int .i64 x.Ratio.Hi,.int .i64 x.Match.Lo,.int .i64 x.Match.Hi,.int .i64 x.Turn.Lo,.int .i64 x.Turn.Hi]
abbrev api_Echo.ag (x:api_Echo):Value:=.agg #[.int .i64 x.Kind,.int .i64 x.Power.Lo,.int .i64 x.Power.Hi,.int .i64 x.Steps.1.Lo,.int .i64 x.Steps.1.Hi,.int .i64 x.Steps.2.Lo,.int .i64 x.Steps.2.Hi,.int .i64 x.Spread,.int .i64 x.Ratio.Lo,.int .i64 x.Ratio.Hi,.int .i64 x.Match.Lo,.int .i64 x.Match.Hi,.int .i64 x.Turn.Lo,.int .i64 x.Turn.Hi]
abbrev api_Site.ar (x:api_Site):Array Value:=#[.string x.Name,.int .i64 x.X,.int .i64 x.Y,.int .i64 x.Z,.int .i64 x.Rose,.int .i64 x.Gates,.int .i64 x.Step,.int .i64 x.Width]
abbrev api_Site.ag (x:api_Site):Value:=.agg #[.string x.Name,.int .i64 x.X,.int .i64 x.Y,.int .i64 x.Z,.int .i64 x.Rose,.int .i64 x.Gates,.int .i64 x.Step,.int .i64 x.Width]
abbrev api_Grid.ar (x:api_Grid):Array Value:=#[.int .i64 x.X,.int .i64 x.Y,.int .i64 x.Size,.int .i64 x.Wide,.int .i64 x.High]
abbrev api_Grid.ag (x:api_Grid):Value:=.agg #[.int .i64 x.X,.int .i64 x.Y,.int .i64 x.Size,.int .i64 x.Wide,.int .i64 x.High]
def Rp83:Rel (List api_Echo):=fun μ cs x=>∃(ad1:Option Addr) (cap2:Nat),cs=[.slice ad1 x.length cap2]∧ArrM μ 14 api_Echo.cells ad1 cap2 x
theorem Rp83.mono:Rel.Mono Rp83:=by
  intro μ ν cs x hle h
  obtain ⟨ad1,cap2,rfl,f0⟩:=h
  exact ⟨ad1,cap2,rfl,f0.mono hle⟩
theorem Rp83.one:Rel.One 1 Rp83:=by
  intro μ cs x h
  obtain ⟨ad1,cap2,rfl,f0⟩:=h
  all_goals rfl
def Rp58:Rel law12_Thing:=fun μ cs x=>∃(ad1:Option Addr) (cap2:Nat),cs=[.int .u8 x.Kind,.int .u32 x.Time,.int .u8 x.Sides.1,.int .u8 x.Sides.2.1,.int .u8 x.Sides.2.2,.slice ad1 x.Numbers.length cap2]∧ArrM μ 1 (fK .i16) ad1 cap2 x.Numbers
theorem Rp58.mono:Rel.Mono Rp58:=by
  intro μ ν cs x hle h
  obtain ⟨ad1,cap2,rfl,f0⟩:=h
  exact ⟨ad1,cap2,rfl,f0.mono hle⟩
theorem Rp58.one:Rel.One 6 Rp58:=by
  intro μ cs x h
  obtain ⟨ad1,cap2,rfl,f0⟩:=h
  all_goals rfl
def Rp46:Rel volume_Item:=fun μ cs x=>∃(ad1:Option Addr) (cap2:Nat) (css3:List (List Value)) (ad4:Option Addr) (cap5:Nat),cs=[.int .i64 x.Kind,.string x.Name,.int .i64 x.Time,.string x.Sweep.Site.Name,.int .i64 x.Sweep.Site.X,.int .i64 x.Sweep.Site.Y,.int .i64 x.Sweep.Site.Z,.int .i64 x.Sweep.Site.Rose,.int .i64 x.Sweep.Site.Gates,.int .i64 x.Sweep.Site.Step,.int .i64 x.Sweep.Site.Width,.int .i64 x.Sweep.Tilt,.int .i64 x.Sweep.Time,.slice ad1 x.Sweep.Rays.length cap2,.int .i64 x.Field.Grid.X,.int .i64 x.Field.Grid.Y,.int .i64 x.Field.Grid.Size,.int .i64 x.Field.Grid.Wide,.int .i64 x.Field.Grid.High,.slice ad4 x.Field.Vals.length cap5,.string x.Text]∧ArrQ μ 1 Rp83 ad1 cap2 css3 x.Sweep.Rays∧ArrM μ 2 api_Span.cells ad4 cap5 x.Field.Vals
theorem Rp46.mono:Rel.Mono Rp46:=by
  intro μ ν cs x hle h
  obtain ⟨ad1,cap2,css3,ad4,cap5,rfl,f0,f1⟩:=h
  exact ⟨ad1,cap2,css3,ad4,cap5,rfl,f0.mono Rp83.mono hle,f1.mono hle⟩
theorem Rp46.one:Rel.One 21 Rp46:=by
  intro μ cs x h
  obtain ⟨ad1,cap2,css3,ad4,cap5,rfl,f0,f1⟩:=h
  all_goals rfl
def Rp112:Rel volume_sweep:=fun μ cs x=>∃(ad1:Option Addr) (cap2:Nat) (css3:List (List Value)),cs=[.string x.Sweep.Site.Name,.int .i64 x.Sweep.Site.X,.int .i64 x.Sweep.Site.Y,.int .i64 x.Sweep.Site.Z,.int .i64 x.Sweep.Site.Rose,.int .i64 x.Sweep.Site.Gates,.int .i64 x.Sweep.Site.Step,.int .i64 x.Sweep.Site.Width,.int .i64 x.Sweep.Tilt,.int .i64 x.Sweep.Time,.slice ad1 x.Sweep.Rays.length cap2]∧ArrQ μ 1 Rp83 ad1 cap2 css3 x.Sweep.Rays
theorem Rp112.mono:Rel.Mono Rp112:=by
  intro μ ν cs x hle h
  obtain ⟨ad1,cap2,css3,rfl,f0⟩:=h
  exact ⟨ad1,cap2,css3,rfl,f0.mono Rp83.mono hle⟩
theorem Rp112.one:Rel.One 11 Rp112:=by
  intro μ cs x h
  obtain ⟨ad1,cap2,css3,rfl,f0⟩:=h
  all_goals rfl
def Rp114:Rel volume_field:=fun μ cs x=>∃(ad1:Option Addr) (cap2:Nat),cs=[.string x.key,.int .i64 x.time,.int .i64 x.Field.Grid.X,.int .i64 x.Field.Grid.Y,.int .i64 x.Field.Grid.Size,.int .i64 x.Field.Grid.Wide,.int .i64 x.Field.Grid.High,.slice ad1 x.Field.Vals.length cap2]∧ArrM μ 2 api_Span.cells ad1 cap2 x.Field.Vals
theorem Rp114.mono:Rel.Mono Rp114:=by
  intro μ ν cs x hle h
  obtain ⟨ad1,cap2,rfl,f0⟩:=h
  exact ⟨ad1,cap2,rfl,f0.mono hle⟩
theorem Rp114.one:Rel.One 8 Rp114:=by
  intro μ cs x h
  obtain ⟨ad1,cap2,rfl,f0⟩:=h
  all_goals rfl
inductive volume_thing where
  | nil_
  | ic112 (x:volume_sweep)
  | ic114 (x:volume_field)
  | ic116 (x:volume_note)
  deriving Inhabited,DecidableEq
def volume_thing.cs {α:Type} (x:volume_thing) (a:α) (a0:volume_sweep→α) (a1:volume_field→α) (a2:volume_note→α):α:=match x with|.nil_=>a|.ic112 x=>a0 x|.ic114 x=>a1 x|.ic116 x=>a2 x 
theorem volume_thing.toNil {α:Type} {x:volume_thing} {a:α} {a0:volume_sweep→α} {a1:volume_field→α} {a2:volume_note→α} {z:α} (hq:x=.nil_) (h:x.cs a a0 a1 a2=z):a=z:=by subst hq;exact h
theorem volume_thing.to112 {α:Type} {x:volume_thing} {y:volume_sweep} {a:α} {a0:volume_sweep→α} {a1:volume_field→α} {a2:volume_note→α} {z:α} (hq:x=.ic112 y) (h:x.cs a a0 a1 a2=z):a0 y=z:=by subst hq;exact h
theorem volume_thing.to114 {α:Type} {x:volume_thing} {y:volume_field} {a:α} {a1:volume_sweep→α} {a0:volume_field→α} {a2:volume_note→α} {z:α} (hq:x=.ic114 y) (h:x.cs a a1 a0 a2=z):a0 y=z:=by subst hq;exact h
theorem volume_thing.to116 {α:Type} {x:volume_thing} {y:volume_note} {a:α} {a1:volume_sweep→α} {a2:volume_field→α} {a0:volume_note→α} {z:α} (hq:x=.ic116 y) (h:x.cs a a1 a2 a0=z):a0 y=z:=by subst hq;exact h
def volume_thing.R (μ:Frz) (v:Value) (x:volume_thing):Prop:=match x with|.nil_=>v=.nilIface|.ic112 y=>∃cs:List Value,v=.iface 112 (.agg cs.toArray)∧Rp112 μ cs y|.ic114 y=>∃cs:List Value,v=.iface 114 (.agg cs.toArray)∧Rp114 μ cs y|.ic116 y=>∃cs:List Value,v=.iface 116 (.agg cs.toArray)∧(RpF volume_note.cells) μ cs y 
theorem volume_thing.R.mono {μ ν:Frz} {v:Value} {x:volume_thing} (h:volume_thing.R μ v x) (hle:μ.le ν):volume_thing.R ν v x:=by
  cases x with
  | nil_=>exact h
  | ic112 y =>
    obtain ⟨cs,h1,h2⟩:=h
    exact ⟨cs,h1,Rp112.mono _ _ _ _ hle h2⟩
  | ic114 y =>
    obtain ⟨cs,h1,h2⟩:=h
    exact ⟨cs,h1,Rp114.mono _ _ _ _ hle h2⟩
  | ic116 y =>
    obtain ⟨cs,h1,h2⟩:=h
    exact ⟨cs,h1,h2⟩
theorem volume_thing.R.one {μ:Frz} {v:Value} {x:volume_thing} (h:volume_thing.R μ v x):v.cells=#[v]∧v.oneCell'=true:=by
  cases x with
  | nil_=>obtain rfl:v=.nilIface:=h;exact ⟨rfl,rfl⟩
  | ic112 y=>obtain ⟨cs,rfl,_⟩:=h;exact ⟨rfl,rfl⟩
  | ic114 y=>obtain ⟨cs,rfl,_⟩:=h;exact ⟨rfl,rfl⟩
  | ic116 y=>obtain ⟨cs,rfl,_⟩:=h;exact ⟨rfl,rfl⟩
def B0 (p0:List Int) (p1:Int):Int:=Xp p0 p1
def Du (p0:ByteArray):Bool:=Zy p0
def Ad (F:Nat) (p0:law12_Thing) (p1:Int) (p2:Int):Option Int :=
  bif (((p0.Numbers.length:Nat):Int)==0) then (some 0) else ((K0 p1 ((p0.Numbers.length:Nat):Int)).bind fun x5 =>
  (E0 p0.Numbers x5).bind fun u6 =>
  (ck u6).bind fun x7 =>
  (K0 x7 p2).bind fun x8 =>
  (ck (x8+p2)).bind fun x9 =>
  (K0 x9 p2).bind fun a0 =>
  some a0)
def Aw (F:Nat) (p0:law12_Thing) (p1:Int) (p2:Int) (p3:Int):Option api_Span :=
  (Ad F (law12_Thing.mk p0.Kind p0.Time (p0.Sides.1,p0.Sides.2.1,p0.Sides.2.2) p0.Numbers) p1 300).bind fun y6 =>
  (ck (p2+y6)).bind fun x7 =>
  (ck (p1+1)).bind fun x9 =>
  (Ad F (law12_Thing.mk p0.Kind p0.Time (p0.Sides.1,p0.Sides.2.1,p0.Sides.2.2) p0.Numbers) x9 p3).bind fun a1 =>
  (ck (x7+a1)).bind fun a0 =>
  some (api_Span.mk x7 a0)
def Fb (F:Nat) (p0:law12_Thing) (p1:Int):Option api_Echo :=
  (Ad F (law12_Thing.mk p0.Kind p0.Time (p0.Sides.1,p0.Sides.2.1,p0.Sides.2.2) p0.Numbers) p1 4).bind fun y6 =>
  bif (y6==0) then ((ck (p1+1)).bind fun x7 =>
  (Ad F (law12_Thing.mk p0.Kind p0.Time (p0.Sides.1,p0.Sides.2.1,p0.Sides.2.2) p0.Numbers) x7 200).bind fun y8 =>
  some (api_Echo.mk 1 (api_Span.mk 0 y8) ((api_Span.mk 0 0),(api_Span.mk 0 0)) 0 (api_Span.mk 0 0) (api_Span.mk 0 0) (api_Span.mk 0 0))) else (bif (y6==1) then ((ck (p1+1)).bind fun x9 =>
  (Aw F (law12_Thing.mk p0.Kind p0.Time (p0.Sides.1,p0.Sides.2.1,p0.Sides.2.2) p0.Numbers) x9 1 1000).bind fun a9 =>
  (ck (p1+3)).bind fun a0 =>
  (Aw F (law12_Thing.mk p0.Kind p0.Time (p0.Sides.1,p0.Sides.2.1,p0.Sides.2.2) p0.Numbers) a0 0 50000).bind fun aA =>
  (ck (p1+2)).bind fun a1 =>
  (Aw F (law12_Thing.mk p0.Kind p0.Time (p0.Sides.1,p0.Sides.2.1,p0.Sides.2.2) p0.Numbers) a1 0 500).bind fun aB =>
  (ck (p1+5)).bind fun a2 =>
  (Ad F (law12_Thing.mk p0.Kind p0.Time (p0.Sides.1,p0.Sides.2.1,p0.Sides.2.2) p0.Numbers) a2 65536).bind fun aC =>
  some (api_Echo.mk 2 a9 ((api_Span.mk 0 0),(api_Span.mk 0 0)) aC aA aB (api_Span.mk 0 0))) else (bif (y6==2) then ((ck (p1+1)).bind fun a3 =>
  (Aw F (law12_Thing.mk p0.Kind p0.Time (p0.Sides.1,p0.Sides.2.1,p0.Sides.2.2) p0.Numbers) a3 1 1000).bind fun aD =>
  (ck (p1+3)).bind fun a4 =>
  (Aw F (law12_Thing.mk p0.Kind p0.Time (p0.Sides.1,p0.Sides.2.1,p0.Sides.2.2) p0.Numbers) a4 0 50000).bind fun aE =>
  (ck (p1+2)).bind fun a5 =>
  (Aw F (law12_Thing.mk p0.Kind p0.Time (p0.Sides.1,p0.Sides.2.1,p0.Sides.2.2) p0.Numbers) a5 0 500).bind fun aF =>
  (ck (p1+5)).bind fun a6 =>
  (Ad F (law12_Thing.mk p0.Kind p0.Time (p0.Sides.1,p0.Sides.2.1,p0.Sides.2.2) p0.Numbers) a6 3000).bind fun aG =>
  (Aw F (law12_Thing.mk p0.Kind p0.Time (p0.Sides.1,p0.Sides.2.1,p0.Sides.2.2) p0.Numbers) p1 (-200) 30000).bind fun aH =>
  (ck (p1+4)).bind fun a7 =>
  (Aw F (law12_Thing.mk p0.Kind p0.Time (p0.Sides.1,p0.Sides.2.1,p0.Sides.2.2) p0.Numbers) a7 (-32768) 3).bind fun aI =>
  (ck (p1+1)).bind fun a8 =>
  (Aw F (law12_Thing.mk p0.Kind p0.Time (p0.Sides.1,p0.Sides.2.1,p0.Sides.2.2) p0.Numbers) a8 500 40).bind fun aJ =>
  some (api_Echo.mk 3 aD (aH,aI) aG aE aF aJ)) else (some (api_Echo.mk 1 (api_Span.mk 0 0) ((api_Span.mk 0 0),(api_Span.mk 0 0)) 0 (api_Span.mk 0 0) (api_Span.mk 0 0) (api_Span.mk 0 0)))))
def Ez (x9:Int) (a0:(List Int)):Option volume_Item :=
  some (volume_Item.mk 3 ByteArray.empty x9 (api_Sweep.mk (api_Site.mk ByteArray.empty 0 0 0 0 0 0 0) 0 0 ([]:(List (List api_Echo)))) (api_Field.mk (api_Grid.mk 0 0 0 0 0) ([]:(List api_Span))) (bst a0))
def G9 (F:Nat) (p0:law12_Thing) (u8:ByteArray) (x9:Int) (a3:Int) (k3:((List Int)→Int→Option volume_Item)) (a1:(List Int)) (a0:Int):Option volume_Item :=
  bif (decide (a0<a3)) then ((Ad F (law12_Thing.mk p0.Kind p0.Time (p0.Sides.1,p0.Sides.2.1,p0.Sides.2.2) p0.Numbers) a0 95).bind fun a6 =>
  (ck (32+a6)).bind fun a4 =>
  (apd 1 a1 ([IntKind.u8.wrap a4])).bind fun a2 =>
  (ck (a0+1)).bind fun a5 =>
  k3 a2 a5) else (Ez x9 a1)
def E4 (F:Nat) (p0:law12_Thing) (u8:ByteArray) (x9:Int) (a0:Int):Nat→(List Int)→Int→Option volume_Item
  | 0,_,_=>none
  | n+1,a1,a2=>G9 F p0 u8 x9 a0 (E4 F p0 u8 x9 a0 n) a1 a2
def Gc (F:Nat) (p0:law12_Thing) (u8:ByteArray) (x9:Int):Option volume_Item :=
  (ck p0.Sides.1).bind fun a0 =>
  (K0 a0 201).bind fun a1 =>
  E4 F p0 u8 x9 a1 F ([]) 0
def F1 (u8:ByteArray) (x9:Int) (a1:Int) (a2:Int) (a3:Int) (a4:Int) (a6:Int) (a7:Int) (a5:Int) (a8:Int) (a0:(List (List api_Echo))):Option volume_Item :=
  some (volume_Item.mk 1 ByteArray.empty 0 (api_Sweep.mk (api_Site.mk u8 a4 (IntKind.i64.wrap (0-a6)) a7 a1 a2 a5 a3) a8 x9 a0) (api_Field.mk (api_Grid.mk 0 0 0 0 0) ([]:(List api_Span))) ByteArray.empty)
def Gd (a1:Int) (k5:((List (List api_Echo))→Int→Option volume_Item)) (a0:(List (List api_Echo))):Option volume_Item :=
  (ck (a1+1)).bind fun a2 =>
  k5 a0 a2
def Ge (a0:(List (List api_Echo))) (a3:Int) (k5:((List (List api_Echo))→Int→Option volume_Item)) (a1:(List api_Echo)):Option volume_Item :=
  (apd 24 a0 ([a1])).bind fun a2 =>
  Gd a3 k5 a2
def Gb (F:Nat) (p0:law12_Thing) (a3:Int) (a5:(List (List api_Echo))) (a4:Int) (k5:((List (List api_Echo))→Int→Option volume_Item)) (k8:((List api_Echo)→Int→Option volume_Item)) (a2:(List api_Echo)) (a1:Int):Option volume_Item :=
  bif (decide (a1<a3)) then ((ck (a4*a3)).bind fun a7 =>
  (ck (a7+a1)).bind fun a8 =>
  (N3 a8 2).bind fun a9 =>
  (Fb F (law12_Thing.mk p0.Kind p0.Time (p0.Sides.1,p0.Sides.2.1,p0.Sides.2.2) p0.Numbers) a9).bind fun a0 =>
  (apd 112 a2 ([(api_Echo.mk a0.Kind a0.Power ((api_Span.mk a0.Steps.1.Lo a0.Steps.1.Hi),(api_Span.mk a0.Steps.2.Lo a0.Steps.2.Hi)) a0.Spread a0.Ratio a0.Match a0.Turn)])).bind fun a6 =>
  (ck (a1+1)).bind fun aA =>
  k8 a6 aA) else (Ge a5 a4 k5 a2)
def E5 (F:Nat) (p0:law12_Thing) (a1:Int) (a0:(List (List api_Echo))) (a2:Int) (k5:((List (List api_Echo))→Int→Option volume_Item)):Nat→(List api_Echo)→Int→Option volume_Item
  | 0,_,_=>none
  | n+1,a3,a4=>Gb F p0 a1 a0 a2 k5 (E5 F p0 a1 a0 a2 k5 n) a3 a4
def Ga (F:Nat) (p0:law12_Thing) (u8:ByteArray) (x9:Int) (a3:Int) (a1:Int) (a4:Int) (a5:Int) (a8:Int) (a9:Int) (a6:Int) (aA:Int) (a7:Int) (k5:((List (List api_Echo))→Int→Option volume_Item)) (a0:(List (List api_Echo))) (a2:Int):Option volume_Item :=
  bif (decide (a2<a7)) then (E5 F p0 a1 a0 a2 k5 F ([]) 0) else (F1 u8 x9 a3 a1 a4 a5 a8 a9 a6 aA a0)
def Da (F:Nat) (p0:law12_Thing) (u8:ByteArray) (x9:Int) (a0:Int) (a1:Int) (a2:Int) (a3:Int) (a6:Int) (a7:Int) (a4:Int) (a8:Int) (a5:Int):Nat→(List (List api_Echo))→Int→Option volume_Item
  | 0,_,_=>none
  | n+1,a9,aA=>Ga F p0 u8 x9 a0 a1 a2 a3 a6 a7 a4 a8 a5 (Da F p0 u8 x9 a0 a1 a2 a3 a6 a7 a4 a8 a5 n) a9 aA
def F2 (u8:ByteArray) (x9:Int) (a1:Int) (a2:Int) (a3:Int) (a5:Int) (a4:Int) (a0:(List api_Span)):Option volume_Item :=
  some (volume_Item.mk 2 u8 x9 (api_Sweep.mk (api_Site.mk ByteArray.empty 0 0 0 0 0 0 0) 0 0 ([]:(List (List api_Echo)))) (api_Field.mk (api_Grid.mk a3 (IntKind.i64.wrap (0-a5)) a4 a1 a2) a0) ByteArray.empty)
def Fz (F:Nat) (p0:law12_Thing) (u8:ByteArray) (x9:Int) (a4:Int) (a5:Int) (a6:Int) (aC:Int) (a7:Int) (a8:Int) (a2:((List api_Span)→Int→Option volume_Item)) (a1:(List api_Span)) (a0:Int):Option volume_Item :=
  bif (decide (a0<a8)) then ((N3 a0 2).bind fun a9 =>
  (ck (5+a0)).bind fun aA =>
  (Aw F (law12_Thing.mk p0.Kind p0.Time (p0.Sides.1,p0.Sides.2.1,p0.Sides.2.2) p0.Numbers) a9 0 aA).bind fun aD =>
  (apd 16 a1 ([aD])).bind fun a3 =>
  (ck (a0+1)).bind fun aB =>
  a2 a3 aB) else (F2 u8 x9 a4 a5 a6 aC a7 a1)
def Dp (F:Nat) (p0:law12_Thing) (u8:ByteArray) (x9:Int) (a0:Int) (a1:Int) (a2:Int) (a5:Int) (a3:Int) (a4:Int):Nat→(List api_Span)→Int→Option volume_Item
  | 0,_,_=>none
  | n+1,a6,a7=>Fz F p0 u8 x9 a0 a1 a2 a5 a3 a4 (Dp F p0 u8 x9 a0 a1 a2 a5 a3 a4 n) a6 a7
def Fc (F:Nat) (p0:law12_Thing):Option volume_Item :=
  (Ad F (law12_Thing.mk p0.Kind p0.Time (p0.Sides.1,p0.Sides.2.1,p0.Sides.2.2) p0.Numbers) 0 3).bind fun y7 =>
  (E0 ([(⟨#[97]⟩:ByteArray),(⟨#[98,95,49]⟩:ByteArray),(⟨#[122,122,122,122,122,122,122,122,122,122,122,122]⟩:ByteArray)]) y7).bind fun u8 =>
  (ck p0.Time).bind fun x9 =>
  (K0 p0.Kind 3).bind fun a0 =>
  bif (a0==0) then ((ck p0.Sides.1).bind fun a4 =>
  (K0 a4 2).bind fun a5 =>
  (ck (1+a5)).bind fun a1 =>
  (ck p0.Sides.2.1).bind fun a6 =>
  (K0 a6 4).bind fun a7 =>
  (ck (1+a7)).bind fun a8 =>
  (ck p0.Sides.2.2).bind fun a9 =>
  (K0 a9 9).bind fun aA =>
  (Ad F (law12_Thing.mk p0.Kind p0.Time (p0.Sides.1,p0.Sides.2.1,p0.Sides.2.2) p0.Numbers) 1 2000).bind fun aL =>
  (ck (aL-1000)).bind fun aB =>
  (Ad F (law12_Thing.mk p0.Kind p0.Time (p0.Sides.1,p0.Sides.2.1,p0.Sides.2.2) p0.Numbers) 2 900).bind fun aM =>
  (Ad F (law12_Thing.mk p0.Kind p0.Time (p0.Sides.1,p0.Sides.2.1,p0.Sides.2.2) p0.Numbers) 3 20001).bind fun aN =>
  (Ad F (law12_Thing.mk p0.Kind p0.Time (p0.Sides.1,p0.Sides.2.1,p0.Sides.2.2) p0.Numbers) 4 1951).bind fun aO =>
  (ck (50+aO)).bind fun aC =>
  (Ad F (law12_Thing.mk p0.Kind p0.Time (p0.Sides.1,p0.Sides.2.1,p0.Sides.2.2) p0.Numbers) 5 257).bind fun aP =>
  (ck (4*a1)).bind fun aD =>
  Da F p0 u8 x9 a1 a8 aA aB aM aN aC aP aD F ([]) 0) else (bif (a0==1) then ((ck p0.Sides.1).bind fun aE =>
  (K0 aE 5).bind fun aF =>
  (ck (1+aF)).bind fun a2 =>
  (ck p0.Sides.2.1).bind fun aG =>
  (K0 aG 4).bind fun aH =>
  (ck (1+aH)).bind fun a3 =>
  (Ad F (law12_Thing.mk p0.Kind p0.Time (p0.Sides.1,p0.Sides.2.1,p0.Sides.2.2) p0.Numbers) 1 2000).bind fun aQ =>
  (ck (aQ-1000)).bind fun aI =>
  (Ad F (law12_Thing.mk p0.Kind p0.Time (p0.Sides.1,p0.Sides.2.1,p0.Sides.2.2) p0.Numbers) 2 900).bind fun aR =>
  (Ad F (law12_Thing.mk p0.Kind p0.Time (p0.Sides.1,p0.Sides.2.1,p0.Sides.2.2) p0.Numbers) 3 10000).bind fun aS =>
  (ck (1+aS)).bind fun aJ =>
  (ck (a2*a3)).bind fun aK =>
  Dp F p0 u8 x9 a2 a3 aI aR aJ aK F ([]) 0) else (Gc F p0 u8 x9))
def Ld (a0:(List volume_Item)):Option ((List volume_Item)×Bool) :=
  some (a0,true)
def Lc (F:Nat) (p0:(List law12_Thing)) (k2:(Int→(List volume_Item)→Option ((List volume_Item)×Bool))) (a1:Int) (a2:(List volume_Item)):Option ((List volume_Item)×Bool) :=
  bif (decide (a1<((p0.length:Nat):Int))) then ((E0 p0 a1).bind fun a0 =>
  (Fc F (law12_Thing.mk a0.Kind a0.Time (a0.Sides.1,a0.Sides.2.1,a0.Sides.2.2) a0.Numbers)).bind fun a5 =>
  (apd 224 a2 ([a5])).bind fun a3 =>
  (ck (a1+1)).bind fun a4 =>
  k2 a4 a3) else (Ld a2)
def Hw (F:Nat) (p0:(List law12_Thing)):Nat→Int→(List volume_Item)→Option ((List volume_Item)×Bool)
  | 0,_,_=>none
  | n+1,a1,a0=>Lc F p0 (Hw F p0 n) a1 a0
def Li (F:Nat) (p0:(List law12_Thing)):Option ((List volume_Item)×Bool) :=
  bif (decide (((p0.length:Nat):Int)>8)) then (some (([]:(List volume_Item)),false)) else (Hw F p0 F 0 ([]))
def A3 (p0:volume_sweep):volume_Item :=
  (volume_Item.mk 1 ByteArray.empty 0 p0.Sweep (api_Field.mk (api_Grid.mk 0 0 0 0 0) ([]:(List api_Span))) ByteArray.empty)
def A2 (p0:volume_field):volume_Item :=
  (volume_Item.mk 2 p0.key p0.time (api_Sweep.mk (api_Site.mk ByteArray.empty 0 0 0 0 0 0 0) 0 0 ([]:(List (List api_Echo)))) p0.Field ByteArray.empty)
def A4 (p0:volume_note):volume_Item :=
  (volume_Item.mk 3 ByteArray.empty p0.time (api_Sweep.mk (api_Site.mk ByteArray.empty 0 0 0 0 0 0 0) 0 0 ([]:(List (List api_Echo)))) (api_Field.mk (api_Grid.mk 0 0 0 0 0) ([]:(List api_Span))) p0.text)
def Gx (p0:volume_Item):volume_thing :=
  bif (p0.Kind==1) then (bif (bif (bif (bif (bif (!(sEq p0.Name ((A3 (volume_sweep.mk p0.Sweep)).Name))) then true else (p0.Time != ((A3 (volume_sweep.mk p0.Sweep)).Time))) then true else (!(sEq p0.Text ((A3 (volume_sweep.mk p0.Sweep)).Text)))) then true else false) then true else (!(bif (((p0.Field.Grid.X:Int)==0)&&(((p0.Field.Grid.Y:Int)==0)&&(((p0.Field.Grid.Size:Int)==0)&&(((p0.Field.Grid.Wide:Int)==0)&&(((p0.Field.Grid.High:Int)==0)&&true))))) then (((p0.Field.Vals.length:Nat):Int)==0) else false))) then (volume_thing.nil_) else ((volume_thing.ic112 (volume_sweep.mk p0.Sweep)))) else (bif (p0.Kind==2) then (bif (bif (bif (bif (bif (!(sEq p0.Name ((A2 (volume_field.mk p0.Name p0.Time p0.Field)).Name))) then true else (p0.Time != ((A2 (volume_field.mk p0.Name p0.Time p0.Field)).Time))) then true else (!(sEq p0.Text ((A2 (volume_field.mk p0.Name p0.Time p0.Field)).Text)))) then true else (!(bif (bif (bif ((p0.Sweep.Site.Name==ByteArray.empty)&&(((p0.Sweep.Site.X:Int)==0)&&(((p0.Sweep.Site.Y:Int)==0)&&(((p0.Sweep.Site.Z:Int)==0)&&(((p0.Sweep.Site.Rose:Int)==0)&&(((p0.Sweep.Site.Gates:Int)==0)&&(((p0.Sweep.Site.Step:Int)==0)&&(((p0.Sweep.Site.Width:Int)==0)&&true)))))))) then (p0.Sweep.Tilt==0) else false) then (p0.Sweep.Time==0) else false) then (((p0.Sweep.Rays.length:Nat):Int)==0) else false))) then true else false) then (volume_thing.nil_) else ((volume_thing.ic114 (volume_field.mk p0.Name p0.Time p0.Field)))) else (bif (p0.Kind==3) then (bif (bif (bif (bif (bif (!(sEq p0.Name ((A4 (volume_note.mk p0.Time p0.Text)).Name))) then true else (p0.Time != ((A4 (volume_note.mk p0.Time p0.Text)).Time))) then true else (!(sEq p0.Text ((A4 (volume_note.mk p0.Time p0.Text)).Text)))) then true else (!(bif (bif (bif ((p0.Sweep.Site.Name==ByteArray.empty)&&(((p0.Sweep.Site.X:Int)==0)&&(((p0.Sweep.Site.Y:Int)==0)&&(((p0.Sweep.Site.Z:Int)==0)&&(((p0.Sweep.Site.Rose:Int)==0)&&(((p0.Sweep.Site.Gates:Int)==0)&&(((p0.Sweep.Site.Step:Int)==0)&&(((p0.Sweep.Site.Width:Int)==0)&&true)))))))) then (p0.Sweep.Tilt==0) else false) then (p0.Sweep.Time==0) else false) then (((p0.Sweep.Rays.length:Nat):Int)==0) else false))) then true else (!(bif (((p0.Field.Grid.X:Int)==0)&&(((p0.Field.Grid.Y:Int)==0)&&(((p0.Field.Grid.Size:Int)==0)&&(((p0.Field.Grid.Wide:Int)==0)&&(((p0.Field.Grid.High:Int)==0)&&true))))) then (((p0.Field.Vals.length:Nat):Int)==0) else false))) then (volume_thing.nil_) else ((volume_thing.ic116 (volume_note.mk p0.Time p0.Text)))) else (volume_thing.nil_)))
def Lf (F:Nat) (p0:ByteArray):Option Bool :=
  (gd (((bif (!(sEq p0 (⟨#[]⟩:ByteArray))) then (decide (((p0.size:Nat):Int)≤12)) else false)==true&&true)) (Sr p0 (0:Int)) default).bind fun u1 =>
  (gd (((bif (bif (!(sEq p0 (⟨#[]⟩:ByteArray))) then (decide (((p0.size:Nat):Int)≤12)) else false) then (decide (u1≥97)) else false)==true&&true)) (Sr p0 (0:Int)) default).bind fun u2 =>
  some (bif (bif (bif (bif (!(sEq p0 (⟨#[]⟩:ByteArray))) then (decide (((p0.size:Nat):Int)≤12)) else false) then (decide (u1≥97)) else false) then (decide (u2≤122)) else false) then (!(Du p0)) else false)
def Af (p0:Int) (p1:Int) (p2:Int):Bool :=
  bif (decide (p1≤p0)) then (decide (p0≤p2)) else false
def Dy (c4:Bool):Option Int :=
  bif c4 then (some 3) else (some 0)
def Es (p0:api_Site) (c3:Bool):Option Int :=
  bif c3 then (some 3) else (bif (!(Af p0.Rose 1 90)) then (Dy (!(Af p0.Rose 1 90))) else (bif (!(Af p0.Gates 1 200)) then (Dy (!(Af p0.Gates 1 200))) else (bif (!(Af p0.Step 50 2000)) then (Dy (!(Af p0.Step 50 2000))) else (Dy (!(Af p0.Width 0 8))))))
def Gn (F:Nat) (p0:api_Site):Option Int :=
  (Lf F p0.Name).bind fun y2 =>
  bif (!y2) then (some 10) else (bif (!(Af p0.X (-1048576) 1048576)) then (Es p0 (!(Af p0.X (-1048576) 1048576))) else (bif (!(Af p0.Y (-1048576) 1048576)) then (Es p0 (!(Af p0.Y (-1048576) 1048576))) else (Es p0 (!(Af p0.Z 0 20000)))))
def At (p0:Int) (p1:Int) (p2:Int):Bool :=
  bif (decide (p1≤p0)) then (decide (p0≤p2)) else false
def A9 (p0:api_Span) (p1:Int) (p2:Int):Bool :=
  bif (bif (decide (p1≤p0.Lo)) then (decide (p0.Lo≤p0.Hi)) else false) then (decide (p0.Hi≤p2)) else false
def J2:Option Bool :=
  some true
def Fe (p0:(List api_Span)) (k2:(Int→Option Bool)) (a1:Int):Option Bool :=
  bif (decide (a1<((p0.length:Nat):Int))) then ((E0 p0 a1).bind fun a0 =>
  (gd (((!(At a0.Lo (-32768) 32767))==false&&true)) (ck (a0.Lo+65536)) 0).bind fun a2 =>
  (gd (((!(At a0.Lo (-32768) 32767))==false&&true)) (ck (a2-1)) 0).bind fun a3 =>
  bif (bif (!(At a0.Lo (-32768) 32767)) then true else (!(At a0.Hi a0.Lo a3))) then (some false) else ((ck (a1+1)).bind fun a4 =>
  k2 a4)) else (J2)
def Dq (p0:(List api_Span)):Nat→Int→Option Bool
  | 0,_=>none
  | n+1,a0=>Fe p0 (Dq p0 n) a0
def J6 (F:Nat) (p0:(List api_Span)):Option Bool :=
  Dq p0 F 0
def Dl (c7:Bool):Option Int :=
  bif (!c7) then (some 3) else (some 0)
def D0 (F:Nat) (p0:api_Echo) (c9:Bool):Option Int :=
  bif c9 then (bif (p0.Kind==2) then (Dl (bif (bif (bif (bif (bif (bif (A9 p0.Power 0 1073741824) then (decide (p0.Power.Lo>0)) else false) then (A9 p0.Ratio 0 1000000) else false) then (A9 p0.Match 0 1000) else false) then (At p0.Spread 0 65535) else false) then ((((p0.Steps.1.Lo:Int)==0)&&(((p0.Steps.1.Hi:Int)==0)&&true))&&((((p0.Steps.2.Lo:Int)==0)&&(((p0.Steps.2.Hi:Int)==0)&&true))&&true)) else false) then (((p0.Turn.Lo:Int)==0)&&(((p0.Turn.Hi:Int)==0)&&true)) else false)) else (bif (bif (bif (bif (bif (A9 p0.Power 0 1073741824) then (decide (p0.Power.Lo>0)) else false) then (A9 p0.Ratio 0 1000000) else false) then (A9 p0.Match 0 1000) else false) then (At p0.Spread 0 65535) else false) then ((J6 F ([(api_Span.mk p0.Steps.1.Lo p0.Steps.1.Hi),(api_Span.mk p0.Steps.2.Lo p0.Steps.2.Hi),p0.Turn])).bind fun a0 =>
  Dl a0) else (Dl false))) else (some 2)
def Ha (F:Nat) (p0:api_Echo):Option Int :=
  bif (p0.Kind==1) then (Dl (bif (A9 p0.Power 0 1073741824) then (((p0.Kind:Int)==1)&&((((p0.Power.Lo:Int)==0)&&(((p0.Power.Hi:Int)==p0.Power.Hi)&&true))&&(((((p0.Steps.1.Lo:Int)==0)&&(((p0.Steps.1.Hi:Int)==0)&&true))&&((((p0.Steps.2.Lo:Int)==0)&&(((p0.Steps.2.Hi:Int)==0)&&true))&&true))&&(((p0.Spread:Int)==0)&&((((p0.Ratio.Lo:Int)==0)&&(((p0.Ratio.Hi:Int)==0)&&true))&&((((p0.Match.Lo:Int)==0)&&(((p0.Match.Hi:Int)==0)&&true))&&((((p0.Turn.Lo:Int)==0)&&(((p0.Turn.Hi:Int)==0)&&true))&&true))))))) else false)) else (bif (p0.Kind==2) then (D0 F p0 (p0.Kind==2)) else (D0 F p0 (p0.Kind==3)))
def Gm:Option Int :=
  some 0
def F3 (a0:Int) (k3:(Int→Option Int)):Option Int :=
  (ck (a0+1)).bind fun a1 =>
  k3 a1
def Gj (F:Nat) (a4:Int) (k3:(Int→Option Int)) (a2:(List api_Echo)) (k5:(Int→Option Int)) (a1:Int):Option Int :=
  bif (decide (a1<((a2.length:Nat):Int))) then ((E0 a2 a1).bind fun a0 =>
  (Ha F (api_Echo.mk a0.Kind a0.Power ((api_Span.mk a0.Steps.1.Lo a0.Steps.1.Hi),(api_Span.mk a0.Steps.2.Lo a0.Steps.2.Hi)) a0.Spread a0.Ratio a0.Match a0.Turn)).bind fun a3 =>
  bif (a3 != 0) then (some a3) else ((ck (a1+1)).bind fun a5 =>
  k5 a5)) else (F3 a4 k3)
def Dd (F:Nat) (a1:Int) (k3:(Int→Option Int)) (a0:(List api_Echo)):Nat→Int→Option Int
  | 0,_=>none
  | n+1,a2=>Gj F a1 k3 a0 (Dd F a1 k3 a0 n) a2
def Gi (F:Nat) (p0:api_Sweep) (k3:(Int→Option Int)) (a0:Int):Option Int :=
  bif (decide (a0<((p0.Rays.length:Nat):Int))) then ((E0 p0.Rays a0).bind fun a1 =>
  Dd F a0 k3 a1 F 0) else (Gm)
def Dc (F:Nat) (p0:api_Sweep):Nat→Int→Option Int
  | 0,_=>none
  | n+1,a0=>Gi F p0 (Dc F p0 n) a0
def Gl (F:Nat) (p0:api_Sweep):Option Int :=
  Dc F p0 F 0
def Gk (F:Nat) (p0:api_Sweep) (k6:(Int→Option Int)) (a0:Int):Option Int :=
  bif (decide (a0<((p0.Rays.length:Nat):Int))) then ((E0 p0.Rays a0).bind fun a1 =>
  bif (((a1.length:Nat):Int) != p0.Site.Gates) then (some 11) else ((ck (a0+1)).bind fun a2 =>
  k6 a2)) else (Gl F p0)
def E9 (F:Nat) (p0:api_Sweep):Nat→Int→Option Int
  | 0,_=>none
  | n+1,a0=>Gk F p0 (E9 F p0 n) a0
def Gu (F:Nat) (p0:api_Sweep):Option Int :=
  (Gn F p0.Site).bind fun y6 =>
  bif (y6 != 0) then (some y6) else (bif (bif (!(At p0.Tilt 0 256)) then true else (!(At p0.Time 0 4294967296))) then (some 3) else ((ck (4*p0.Site.Rose)).bind fun x7 =>
  bif (((p0.Rays.length:Nat):Int) != x7) then (some 11) else (E9 F p0 F 0)))
def D4 (F:Nat) (p0:volume_sweep):Option Int :=
  (Gu F p0.Sweep).bind fun y6 =>
  some y6
def Dh (c2:Bool):Int :=
  bif c2 then (3) else (0)
def Bd (p0:api_Grid):Int :=
  bif (!(Af p0.X (-1048576) 1048576)) then (Dh (!(Af p0.X (-1048576) 1048576))) else (bif (!(Af p0.Y (-1048576) 1048576)) then (Dh (!(Af p0.Y (-1048576) 1048576))) else (bif (!(Af p0.Size 1 10000)) then (Dh (!(Af p0.Size 1 10000))) else (bif (!(Af p0.Wide 1 64)) then (Dh (!(Af p0.Wide 1 64))) else (Dh (!(Af p0.High 1 64))))))
def Ko:Option Int :=
  some 0
def Kn (p0:api_Field) (p1:Int) (k2:(Int→Option Int)) (a1:Int):Option Int :=
  bif (decide (a1<((p0.Vals.length:Nat):Int))) then ((E0 p0.Vals a1).bind fun a0 =>
  bif (bif (bif (decide (a0.Lo<0)) then true else (decide (a0.Hi<a0.Lo))) then true else (decide (a0.Hi>p1))) then (some 3) else ((ck (a1+1)).bind fun a2 =>
  k2 a2)) else (Ko)
def Hc (p0:api_Field) (p1:Int):Nat→Int→Option Int
  | 0,_=>none
  | n+1,a0=>Kn p0 p1 (Hc p0 p1 n) a0
def Mk (F:Nat) (p0:api_Field) (p1:Int):Option Int :=
  bif ((Bd p0.Grid) != 0) then (some (Bd p0.Grid)) else ((ck (p0.Grid.Wide*p0.Grid.High)).bind fun x5 =>
  bif (((p0.Vals.length:Nat):Int) != x5) then (some 11) else (Hc p0 p1 F 0))
def Ja (F:Nat) (p0:api_Field):Option Int :=
  (Mk F p0 1073741824).bind fun y5 =>
  some y5
def D3 (F:Nat) (p0:volume_field):Option Int :=
  (Lf F p0.key).bind fun y5 =>
  bif (!y5) then (some 10) else (bif (bif (decide (p0.time<0)) then true else (decide (p0.time>4294967296))) then (some 3) else ((Ja F p0.Field).bind fun y6 =>
  some y6))
def G2:Option Int :=
  some 0
def G1 (a1:(List Int)) (k2:(Int→Option Int)) (a0:Int):Option Int :=
  bif (decide (a0<((a1.length:Nat):Int))) then ((E0 a1 a0).bind fun a2 =>
  bif (bif (decide (a2<32)) then true else (decide (a2>126))) then (some 7) else ((ck (a0+1)).bind fun a3 =>
  k2 a3)) else (G2)
def Dv (a0:(List Int)):Nat→Int→Option Int
  | 0,_=>none
  | n+1,a1=>G1 a0 (Dv a0 n) a1
def Di (F:Nat) (p0:volume_note):Option Int :=
  bif (bif (decide (p0.time<0)) then true else (decide (p0.time>4294967296))) then (some 3) else (bif (decide (((p0.text.size:Nat):Int)>200)) then (some 8) else ((s2b p0.text).bind fun a0 =>
  Dv a0 F 0))
def Hu (F:Nat) (p0:volume_Item):Option (volume_thing×Int) :=
  volume_thing.cs (Gx p0) (some (volume_thing.nil_,2)) (fun a0=>(D4 F a0).bind fun a1 =>
  some ((volume_thing.ic112 a0),a1)) (fun a0=>(D3 F a0).bind fun a2 =>
  some ((volume_thing.ic114 a0),a2)) (fun a0=>(Di F a0).bind fun a3 =>
  some ((volume_thing.ic116 a0),a3))
def Ku (a0:(List Int)):Option (List Int) :=
  (E0 a0 4).bind fun a2 =>
  (E0 a0 4).bind fun a3 =>
  (Ty a0 4 (IntKind.u8.wrap (a2-127))).bind fun a1 =>
  some a1
def J9 (k3:(Int→Int→Int→(List Int)→Option (List Int))) (a2:Int) (a0:Int) (a3:Int) (a1:(List Int)):Option (List Int) :=
  bif (decide (a0<a2)) then ((K0 a3 127).bind fun a5 =>
  (ck (128+a5)).bind fun a6 =>
  (E0 a1 a0).bind fun a9 =>
  (Ty a1 a0 (IntKind.u8.wrap a6)).bind fun a4 =>
  (N3 a3 127).bind fun a7 =>
  (ck (a0+1)).bind fun a8 =>
  k3 a2 a8 a7 a4) else (Ku a1)
def El:Nat→Int→Int→Int→(List Int)→Option (List Int)
  | 0,_,_,_,_=>none
  | n+1,a1,a2,a3,a0=>J9 (El n) a1 a2 a3 a0
def Kt (F:Nat) (a1:Int):Option (List Int) :=
  (mkI 1 5 0).bind fun a0 =>
  El F ((a0.length:Nat):Int) 0 a1 a0
def Ks (F:Nat) (p0:(List Int)) (k4:(Int→Int→Option (List Int))) (a0:Int) (a1:Int):Option (List Int) :=
  bif (decide (a0<((p0.length:Nat):Int))) then ((E0 p0 a0).bind fun a2 =>
  (ck (31*a1)).bind fun a3 =>
  (ck a2).bind fun a4 =>
  (ck (a3+a4)).bind fun a5 =>
  (K0 a5 2147483647).bind fun a6 =>
  (ck (a0+1)).bind fun a7 =>
  k4 a7 a6) else (Kt F a1)
def He (F:Nat) (p0:(List Int)):Nat→Int→Int→Option (List Int)
  | 0,_,_=>none
  | n+1,a0,a1=>Ks F p0 (He F p0 n) a0 a1
def Jg (F:Nat) (p0:(List Int)):Option (List Int) :=
  He F p0 F 0 1
def Ei (a1:Int) (k1:((List Int)→Int→Option volume_writer)) (a0:(List Int)):Option volume_writer :=
  (ck (a1+1)).bind fun a2 =>
  k1 a0 a2
def Ej (a2:Int) (k1:((List Int)→Int→Option volume_writer)) (a0:(List Int)) (a3:Int):Option volume_writer :=
  (ck (1+a3)).bind fun a4 =>
  (apd 1 a0 ([IntKind.u8.wrap a4])).bind fun a1 =>
  Ei a2 k1 a1
def Eh (a3:Int) (k1:((List Int)→Int→Option volume_writer)) (k4:((List Int)→Int→Option volume_writer)) (a1:(List Int)) (a0:Int):Option volume_writer :=
  bif (decide (a0≥127)) then ((K0 a0 127).bind fun a4 =>
  (ck (128+a4)).bind fun a5 =>
  (apd 1 a1 ([IntKind.u8.wrap a5])).bind fun a2 =>
  (N3 a0 127).bind fun a6 =>
  k4 a2 a6) else (Ej a3 k1 a1 a0)
def Cr (a0:Int) (k1:((List Int)→Int→Option volume_writer)):Nat→(List Int)→Int→Option volume_writer
  | 0,_,_=>none
  | n+1,a1,a2=>Eh a0 k1 (Cr a0 k1 n) a1 a2
def Eg (F:Nat) (p1:(List Int)) (k1:((List Int)→Int→Option volume_writer)) (a1:(List Int)) (a0:Int):Option volume_writer :=
  bif (decide (a0<((p1.length:Nat):Int))) then ((E0 p1 a0).bind fun a2 =>
  Cr a0 k1 F a1 a2) else (some (volume_writer.mk a1))
def Cq (F:Nat) (p1:(List Int)):Nat→(List Int)→Int→Option volume_writer
  | 0,_,_=>none
  | n+1,a0,a1=>Eg F p1 (Cq F p1 n) a0 a1
def Ar (F:Nat) (p0:volume_writer) (p1:(List Int)):Option volume_writer :=
  Cq F p1 F p0.b 0
def Dg (F:Nat) (p0:volume_writer) (p1:ByteArray):Option volume_writer :=
  (Ar F p0 ([((p1.size:Nat):Int)])).bind fun y8 =>
  (apd 1 y8.b (sby p1)).bind fun a0 =>
  some (volume_writer.mk a0)
def Ch (a1:Int) (k1:((List Int)→Int→Option volume_writer)) (a0:(List Int)):Option volume_writer :=
  (ck (a1+1)).bind fun a2 =>
  k1 a0 a2
def Eb (F:Nat) (p1:(List Int)) (k1:((List Int)→Int→Option volume_writer)) (a1:(List Int)) (a0:Int):Option volume_writer :=
  bif (decide (a0<((p1.length:Nat):Int))) then ((E0 p1 a0).bind fun a2 =>
  bif (decide (a2<0)) then ((ck ((-2)*a2)).bind fun a3 =>
  (ck (a3-1)).bind fun a4 =>
  (Ar F (volume_writer.mk a1) ([a4])).bind fun a6 =>
  Ch a0 k1 a6.b) else ((ck (2*a2)).bind fun a5 =>
  (Ar F (volume_writer.mk a1) ([a5])).bind fun a7 =>
  Ch a0 k1 a7.b)) else (some (volume_writer.mk a1))
def Bl (F:Nat) (p1:(List Int)):Nat→(List Int)→Int→Option volume_writer
  | 0,_,_=>none
  | n+1,a0,a1=>Eb F p1 (Bl F p1 n) a0 a1
def Cl (F:Nat) (p0:volume_writer) (p1:(List Int)):Option volume_writer :=
  Bl F p1 F p0.b 0
def Df (F:Nat) (p0:volume_writer) (p1:api_Span):Option volume_writer :=
  (Cl F p0 ([p1.Lo])).bind fun y9 =>
  (ck (p1.Hi-p1.Lo)).bind fun a0 =>
  (Ar F y9 ([a0])).bind fun a1 =>
  some a1
def Cj (F:Nat) (p1:api_Echo) (k2:((List Int)→Int→Option volume_writer)) (a1:(List Int)) (a0:Int):Option volume_writer :=
  bif (decide (a0<((3:Nat):Int))) then ((E0 ([(api_Span.mk p1.Steps.1.Lo p1.Steps.1.Hi),(api_Span.mk p1.Steps.2.Lo p1.Steps.2.Hi),p1.Turn]) a0).bind fun a2 =>
  (Df F (volume_writer.mk a1) a2).bind fun a4 =>
  (ck (a0+1)).bind fun a3 =>
  k2 a4.b a3) else (some (volume_writer.mk a1))
def Bz (F:Nat) (p1:api_Echo):Nat→(List Int)→Int→Option volume_writer
  | 0,_,_=>none
  | n+1,a0,a1=>Cj F p1 (Bz F p1 n) a0 a1
def F8 (F:Nat) (p1:api_Echo) (a1:(List Int)):Option volume_writer :=
  (Ar F (volume_writer.mk a1) ([p1.Spread])).bind fun a0 =>
  bif (p1.Kind==3) then (Bz F p1 F a0.b 0) else (some a0)
def Ck (F:Nat) (p1:api_Echo) (k3:((List Int)→Int→Option volume_writer)) (a1:(List Int)) (a0:Int):Option volume_writer :=
  bif (decide (a0<((3:Nat):Int))) then ((E0 ([p1.Power,p1.Ratio,p1.Match]) a0).bind fun a2 =>
  (Df F (volume_writer.mk a1) a2).bind fun a4 =>
  (ck (a0+1)).bind fun a3 =>
  k3 a4.b a3) else (F8 F p1 a1)
def C0 (F:Nat) (p1:api_Echo):Nat→(List Int)→Int→Option volume_writer
  | 0,_,_=>none
  | n+1,a0,a1=>Ck F p1 (C0 F p1 n) a0 a1
def F5 (F:Nat) (p0:volume_writer) (p1:api_Echo):Option volume_writer :=
  (Ar F p0 ([p1.Kind])).bind fun y9 =>
  bif (p1.Kind==1) then ((Ar F y9 ([p1.Power.Hi])).bind fun a0 =>
  some a0) else (C0 F p1 F y9.b 0)
def Bs (F:Nat) (a7:Int) (a8:Int) (a9:Int) (aA:Int) (aB:Int) (aC:Int) (aD:Int) (aE:Int) (aF:Int) (aG:Int) (aH:Int) (aI:Int) (aJ:Int) (aK:Int) (a5:(List Int)) (a2:(List api_Echo)) (k1:(Int→Int→Int→Int→Int→Int→Int→Int→Int→Int→Int→Int→Int→Int→(List Int)→(List api_Echo)→Option volume_writer)) (a3:Int):Option volume_writer :=
  (Ar F (volume_writer.mk a5) ([a3])).bind fun a4 =>
  (Hg a2 a3 ((a2.length:Nat):Int)).bind fun a1 =>
  bif (decide (((a1.length:Nat):Int)>0)) then ((E0 a1 0).bind fun a0 =>
  (Hg a1 1 ((a1.length:Nat):Int)).bind fun a6 =>
  (F5 F a4 (api_Echo.mk a0.Kind a0.Power ((api_Span.mk a0.Steps.1.Lo a0.Steps.1.Hi),(api_Span.mk a0.Steps.2.Lo a0.Steps.2.Hi)) a0.Spread a0.Ratio a0.Match a0.Turn)).bind fun aL =>
  k1 a0.Kind a0.Power.Lo a0.Match.Lo a0.Match.Hi a0.Turn.Lo a0.Turn.Hi a0.Power.Hi a0.Steps.1.Lo a0.Steps.1.Hi a0.Steps.2.Lo a0.Steps.2.Hi a0.Spread a0.Ratio.Lo a0.Ratio.Hi aL.b a6) else (k1 a7 a8 a9 aA aB aC aD aE aF aG aH aI aJ aK a4.b a1)
def Co (F:Nat) (a3:Int) (a4:Int) (a5:Int) (a6:Int) (a7:Int) (a8:Int) (a9:Int) (aA:Int) (aB:Int) (aC:Int) (aD:Int) (aE:Int) (aF:Int) (aG:Int) (aH:(List Int)) (a2:(List api_Echo)) (k1:(Int→Int→Int→Int→Int→Int→Int→Int→Int→Int→Int→Int→Int→Int→(List Int)→(List api_Echo)→Option volume_writer)) (k3:(Int→Option volume_writer)) (a1:Int):Option volume_writer :=
  (gd (((decide (a1<((a2.length:Nat):Int)))==true&&true)) (E0 a2 a1) default).bind fun a0 =>
  bif (bif (decide (a1<((a2.length:Nat):Int))) then (((a0.Kind:Int)==a3)&&((((a0.Power.Lo:Int)==a4)&&(((a0.Power.Hi:Int)==a9)&&true))&&(((((a0.Steps.1.Lo:Int)==aA)&&(((a0.Steps.1.Hi:Int)==aB)&&true))&&((((a0.Steps.2.Lo:Int)==aC)&&(((a0.Steps.2.Hi:Int)==aD)&&true))&&true))&&(((a0.Spread:Int)==aE)&&((((a0.Ratio.Lo:Int)==aF)&&(((a0.Ratio.Hi:Int)==aG)&&true))&&((((a0.Match.Lo:Int)==a5)&&(((a0.Match.Hi:Int)==a6)&&true))&&((((a0.Turn.Lo:Int)==a7)&&(((a0.Turn.Hi:Int)==a8)&&true))&&true))))))) else false) then ((ck (a1+1)).bind fun aI =>
  k3 aI) else (Bs F a3 a4 a5 a6 a7 a8 a9 aA aB aC aD aE aF aG aH a2 k1 a1)
def Bh (F:Nat) (a2:Int) (a3:Int) (a4:Int) (a5:Int) (a6:Int) (a7:Int) (a8:Int) (a9:Int) (aA:Int) (aB:Int) (aC:Int) (aD:Int) (aE:Int) (aF:Int) (a0:(List Int)) (a1:(List api_Echo)) (k1:(Int→Int→Int→Int→Int→Int→Int→Int→Int→Int→Int→Int→Int→Int→(List Int)→(List api_Echo)→Option volume_writer)):Nat→Int→Option volume_writer
  | 0,_=>none
  | n+1,aG=>Co F a2 a3 a4 a5 a6 a7 a8 a9 aA aB aC aD aE aF a0 a1 k1 (Bh F a2 a3 a4 a5 a6 a7 a8 a9 aA aB aC aD aE aF a0 a1 k1 n) aG
def Br (F:Nat) (k1:(Int→Int→Int→Int→Int→Int→Int→Int→Int→Int→Int→Int→Int→Int→(List Int)→(List api_Echo)→Option volume_writer)) (a2:Int) (a3:Int) (a4:Int) (a5:Int) (a6:Int) (a7:Int) (a8:Int) (a9:Int) (aA:Int) (aB:Int) (aC:Int) (aD:Int) (aE:Int) (aF:Int) (a0:(List Int)) (a1:(List api_Echo)):Option volume_writer :=
  bif (decide (((a1.length:Nat):Int)>0)) then (Bh F a2 a3 a4 a5 a6 a7 a8 a9 aA aB aC aD aE aF a0 a1 k1 F 0) else (some (volume_writer.mk a0))
def B9 (F:Nat):Nat→Int→Int→Int→Int→Int→Int→Int→Int→Int→Int→Int→Int→Int→Int→(List Int)→(List api_Echo)→Option volume_writer
  | 0,_,_,_,_,_,_,_,_,_,_,_,_,_,_,_,_=>none
  | n+1,a2,a3,a4,a5,a6,a7,a8,a9,aA,aB,aC,aD,aE,aF,a0,a1=>Br F (B9 F n) a2 a3 a4 a5 a6 a7 a8 a9 aA aB aC aD aE aF a0 a1
def Ca (F:Nat) (p0:volume_writer) (p1:(List api_Echo)) (p2:api_Echo):Option volume_writer :=
  B9 F F p2.Kind p2.Power.Lo p2.Match.Lo p2.Match.Hi p2.Turn.Lo p2.Turn.Hi p2.Power.Hi p2.Steps.1.Lo p2.Steps.1.Hi p2.Steps.2.Lo p2.Steps.2.Hi p2.Spread p2.Ratio.Lo p2.Ratio.Hi p0.b p1
def Fs (F:Nat) (a1:volume_writer) (a0:(List api_Echo)):Option volume_writer :=
  (Ca F a1 a0 (api_Echo.mk 1 (api_Span.mk 0 0) ((api_Span.mk 0 0),(api_Span.mk 0 0)) 0 (api_Span.mk 0 0) (api_Span.mk 0 0) (api_Span.mk 0 0))).bind fun a2 =>
  some a2
def Fq (F:Nat) (p0:volume_sweep) (a5:volume_writer) (k2:((List api_Echo)→Int→Option volume_writer)) (a1:(List api_Echo)) (a0:Int):Option volume_writer :=
  bif (decide (a0<((p0.Sweep.Rays.length:Nat):Int))) then ((E0 p0.Sweep.Rays a0).bind fun a3 =>
  (apd 112 a1 a3).bind fun a2 =>
  (ck (a0+1)).bind fun a4 =>
  k2 a2 a4) else (Fs F a5 a1)
def Dj (F:Nat) (p0:volume_sweep) (a0:volume_writer):Nat→(List api_Echo)→Int→Option volume_writer
  | 0,_,_=>none
  | n+1,a1,a2=>Fq F p0 a0 (Dj F p0 a0 n) a1 a2
def Fo (F:Nat) (p0:volume_sweep) (p1:volume_writer):Option volume_writer :=
  (Ar F p1 ([1])).bind fun a0 =>
  (Dg F a0 p0.Sweep.Site.Name).bind fun a1 =>
  (Cl F a1 ([p0.Sweep.Site.X,p0.Sweep.Site.Y])).bind fun a2 =>
  (Ar F a2 ([p0.Sweep.Site.Z,p0.Sweep.Site.Rose,p0.Sweep.Site.Gates,p0.Sweep.Site.Step,p0.Sweep.Site.Width,p0.Sweep.Tilt,p0.Sweep.Time])).bind fun a3 =>
  Dj F p0 a3 F ([]) 0
def Bu (F:Nat) (a7:Int) (a8:Int) (a5:(List Int)) (a2:(List api_Span)) (k1:(Int→Int→(List Int)→(List api_Span)→Option volume_writer)) (a3:Int):Option volume_writer :=
  (Ar F (volume_writer.mk a5) ([a3])).bind fun a4 =>
  (Hg a2 a3 ((a2.length:Nat):Int)).bind fun a0 =>
  bif (decide (((a0.length:Nat):Int)>0)) then ((E0 a0 0).bind fun a1 =>
  (Hg a0 1 ((a0.length:Nat):Int)).bind fun a6 =>
  (Df F a4 a1).bind fun a9 =>
  k1 a1.Lo a1.Hi a9.b a6) else (k1 a7 a8 a4.b a0)
def Cp (F:Nat) (a3:Int) (a4:Int) (a5:(List Int)) (a1:(List api_Span)) (k1:(Int→Int→(List Int)→(List api_Span)→Option volume_writer)) (k3:(Int→Option volume_writer)) (a0:Int):Option volume_writer :=
  (gd (((decide (a0<((a1.length:Nat):Int)))==true&&true)) (E0 a1 a0) default).bind fun a2 =>
  bif (bif (decide (a0<((a1.length:Nat):Int))) then (((a2.Lo:Int)==a3)&&(((a2.Hi:Int)==a4)&&true)) else false) then ((ck (a0+1)).bind fun a6 =>
  k3 a6) else (Bu F a3 a4 a5 a1 k1 a0)
def Bi (F:Nat) (a2:Int) (a3:Int) (a0:(List Int)) (a1:(List api_Span)) (k1:(Int→Int→(List Int)→(List api_Span)→Option volume_writer)):Nat→Int→Option volume_writer
  | 0,_=>none
  | n+1,a4=>Cp F a2 a3 a0 a1 k1 (Bi F a2 a3 a0 a1 k1 n) a4
def Bt (F:Nat) (k1:(Int→Int→(List Int)→(List api_Span)→Option volume_writer)) (a2:Int) (a3:Int) (a0:(List Int)) (a1:(List api_Span)):Option volume_writer :=
  bif (decide (((a1.length:Nat):Int)>0)) then (Bi F a2 a3 a0 a1 k1 F 0) else (some (volume_writer.mk a0))
def Ba (F:Nat):Nat→Int→Int→(List Int)→(List api_Span)→Option volume_writer
  | 0,_,_,_,_=>none
  | n+1,a2,a3,a0,a1=>Bt F (Ba F n) a2 a3 a0 a1
def Cb (F:Nat) (p0:volume_writer) (p1:(List api_Span)) (p2:api_Span):Option volume_writer :=
  Ba F F p2.Lo p2.Hi p0.b p1
def Fl (F:Nat) (p0:volume_field) (p1:volume_writer):Option volume_writer :=
  (Ar F p1 ([2])).bind fun a0 =>
  (Dg F a0 p0.key).bind fun a1 =>
  (Ar F a1 ([p0.time])).bind fun a2 =>
  (Cl F a2 ([p0.Field.Grid.X,p0.Field.Grid.Y])).bind fun a3 =>
  (Ar F a3 ([p0.Field.Grid.Size,p0.Field.Grid.Wide,p0.Field.Grid.High])).bind fun a4 =>
  (Cb F a4 p0.Field.Vals (api_Span.mk 0 0)).bind fun a5 =>
  some a5
def G3 (F:Nat) (p0:volume_note) (p1:volume_writer):Option volume_writer :=
  (Ar F p1 ([3,p0.time])).bind fun y9 =>
  (Dg F y9 p0.text).bind fun a0 =>
  some a0
def Jh (F:Nat) (p0:volume_thing) (p1:volume_writer):Option volume_writer:=p0.cs none (fun y=>Fo F y p1) (fun y=>Fl F y p1) (fun y=>G3 F y p1)
def J3 (F:Nat) (p0:volume_thing):Option (List Int) :=
  (Jh F p0 (volume_writer.mk ([]:(List Int)))).bind fun y5 =>
  (Ar F (volume_writer.mk ([]:(List Int))) ([((y5.b.length:Nat):Int)])).bind fun a3 =>
  (apd 1 a3.b y5.b).bind fun a0 =>
  (Jg F a0).bind fun a4 =>
  (apd 1 a0 a4).bind fun a1 =>
  (apd 1 ([0]) a1).bind fun a2 =>
  some a2
def Gz (F:Nat) (p0:volume_Item):Option ((List Int)×Int) :=
  (Hu F p0).bind fun a0 =>
  bif (a0.2 != 0) then (some (([]:(List Int)),a0.2)) else ((J3 F a0.1).bind fun a1 =>
  some (a1,0))
def Jf (a0:(List Int)):Option ((List Int)×Int) :=
  bif (decide (((a0.length:Nat):Int)>16777216)) then (some (([]:(List Int)),8)) else (some (a0,0))
def Je (F:Nat) (p0:(List volume_Item)) (k2:(Int→(List Int)→Option ((List Int)×Int))) (a0:Int) (a2:(List Int)):Option ((List Int)×Int) :=
  bif (decide (a0<((p0.length:Nat):Int))) then ((E0 p0 a0).bind fun a4 =>
  (Gz F a4).bind fun a1 =>
  bif (a1.2 != 0) then (some (([]:(List Int)),a1.2)) else ((apd 1 a2 a1.1).bind fun a3 =>
  (ck (a0+1)).bind fun a5 =>
  k2 a5 a3)) else (Jf a2)
def Fv (F:Nat) (p0:(List volume_Item)):Nat→Int→(List Int)→Option ((List Int)×Int)
  | 0,_,_=>none
  | n+1,a1,a0=>Je F p0 (Fv F p0 n) a1 a0
def F9 (F:Nat) (p0:(List volume_Item)):Option ((List Int)×Int) :=
  bif (decide (((p0.length:Nat):Int)>1000)) then (some (([]:(List Int)),9)) else (Fv F p0 F 0 ([82,86,70,49]))
def Em (p0:(List Int)) (p1:(List Int)):Bool :=
  sEq (bst p0) (bst p1)
def H8 (F:Nat) (p0:(List Int)) (p1:(List Int)):Option Bool :=
  bif (decide (((p0.length:Nat):Int)≥((p1.length:Nat):Int))) then ((Hg p0 (0:Int) ((p1.length:Nat):Int)).bind fun l8 =>
  some (Em l8 p1)) else (some false)
def Fm {σ:Type} (body:(σ→(Int×(List Int))→Option (σ×Bool))) (c0_:(List Int)) (k1:(Int→σ→Option (σ×Bool))) (a0:Int) (a4:σ):Option (σ×Bool) :=
  bif (bif (decide (a0≥0)) then (decide (a0<((c0_.length:Nat):Int))) else false) then ((ck (a0+1)).bind fun a7 =>
  (Hg c0_ a7 ((c0_.length:Nat):Int)).bind fun a1 =>
  bif (decide ((B0 a1 0)<0)) then ((ck (a0+1)).bind fun a8 =>
  (Hg c0_ a8 ((c0_.length:Nat):Int)).bind fun a5 =>
  (body a4 (a0,a5)).bind fun a2 =>
  bif a2.2 then (some (a2.1,true)) else (some (a2.1,false))) else ((ck (a0+1)).bind fun a9 =>
  (ck (a0+1)).bind fun aA =>
  (ck (aA+(B0 a1 0))).bind fun aB =>
  (Hg c0_ a9 aB).bind fun a6 =>
  (body a4 (a0,a6)).bind fun a3 =>
  bif a3.2 then ((ck (1+(B0 a1 0))).bind fun aC =>
  (ck (a0+aC)).bind fun aD =>
  k1 aD a3.1) else (some (a3.1,false)))) else (some (a4,true))
def Dm {σ:Type} (body:(σ→(Int×(List Int))→Option (σ×Bool))) (c0_:(List Int)):Nat→Int→σ→Option (σ×Bool)
  | 0,_,_=>none
  | n+1,a1,a0=>Fm body c0_ (Dm body c0_ n) a1 a0
def Ey {σ:Type} (F:Nat) (c0_:(List Int)) (body:σ→(Int×(List Int))→Option (σ×Bool)) (s_:σ):Option (σ×Bool) :=
  Dm body c0_ F (B0 c0_ 0) s_
def Pe (p0:(List Int)):Unit :=
  ()
def Ee (p0:volume_reader):Option (Except (Value×volume_reader) (Int×volume_reader)) :=
  some (.error (.iface 101 (.int .i64 7),p0))
def Ef (a2:Int) (a3:Int) (a0:Int) (k2:(Int→Int→Int→Option (Except (Value×volume_reader) (Int×volume_reader)))) (a1:Int):Option (Except (Value×volume_reader) (Int×volume_reader)) :=
  (ck a1).bind fun a4 =>
  (ck (a4-128)).bind fun a5 =>
  (ck (a5*a0)).bind fun a6 =>
  (ck (a3+a6)).bind fun a7 =>
  (ck (a0*127)).bind fun a8 =>
  (ck (a2+1)).bind fun a9 =>
  k2 a9 a7 a8
def Ed (p0:volume_reader) (a2:(List Int)) (k2:(Int→Int→Int→Option (Except (Value×volume_reader) (Int×volume_reader)))) (a1:Int) (a3:Int) (a4:Int):Option (Except (Value×volume_reader) (Int×volume_reader)) :=
  bif (decide (a1<((a2.length:Nat):Int))) then ((E0 a2 a1).bind fun a0 =>
  bif (bif (bif (a0==0) then true else (a0==255)) then true else (bif (a0==1) then (decide (a1>0)) else false)) then (some (.error (.iface 101 (.int .i64 7),p0))) else (bif (decide (a0<128)) then ((ck (a1+1)).bind fun a6 =>
  (Hg p0.b a6 ((p0.b.length:Nat):Int)).bind fun a5 =>
  (ck a0).bind fun a7 =>
  (ck (a7-1)).bind fun a8 =>
  (ck (a8*a4)).bind fun a9 =>
  (ck (a3+a9)).bind fun aA =>
  some (.ok (aA,(volume_reader.mk a5)))) else (Ef a1 a3 a4 k2 a0))) else (Ee p0)
def Bg (p0:volume_reader) (a0:(List Int)):Nat→Int→Int→Int→Option (Except (Value×volume_reader) (Int×volume_reader))
  | 0,_,_,_=>none
  | n+1,a1,a2,a3=>Ed p0 a0 (Bg p0 a0 n) a1 a2 a3
def Ag (F:Nat) (p0:volume_reader):Option (Except (Value×volume_reader) (Int×volume_reader)) :=
  (Hg p0.b (0:Int) (if 8<((p0.b.length:Nat):Int) then 8 else ((p0.b.length:Nat):Int))).bind fun a0 =>
  Bg p0 a0 F 0 0 1
def Ct (F:Nat) (p0:volume_reader):Option (Int×Bool×volume_reader) :=
  (Ag F p0).bind fun y5 =>
  exc y5 (fun e7=>(asI 101 .i64 e7.1).bind fun a0 =>
  some (0,false,(volume_reader.mk e7.2.b))) fun y6 =>
  some (y6.1,true,(volume_reader.mk y6.2.b))
def H0 (F:Nat) (p0:Int):Option (Except Value Unit) :=
  bif (p0 != 0) then (some (.error (.iface 101 (.int .i64 7)))) else (some (.ok ()))
def F7 (y5:(Int×volume_reader)):Option (Except (Value×volume_reader) (ByteArray×volume_reader)) :=
  (Hg y5.2.b (0:Int) y5.1).bind fun a0 =>
  (Hg y5.2.b y5.1 ((y5.2.b.length:Nat):Int)).bind fun a1 =>
  some (.ok ((bst a0),(volume_reader.mk a1)))
def De (F:Nat) (p0:volume_reader):Option (Except (Value×volume_reader) (ByteArray×volume_reader)) :=
  (Ag F p0).bind fun y4 =>
  exc y4 (fun e6=>some (.error (e6.1,(volume_reader.mk e6.2.b)))) fun y5 =>
  bif (decide (y5.1>((y5.2.b.length:Nat):Int))) then (some (.error (.iface 101 (.int .i64 7),(volume_reader.mk y5.2.b)))) else (F7 y5)
def Bo (F:Nat) (p0:volume_reader):Option (Except (Value×volume_reader) (Int×volume_reader)) :=
  (Ag F p0).bind fun y4 =>
  exc y4 (fun e6=>some (.error (e6.1,(volume_reader.mk e6.2.b)))) fun y5 =>
  (K0 y5.1 2).bind fun a0 =>
  bif (a0==1) then ((ck (y5.1+1)).bind fun a1 =>
  (N3 (IntKind.i64.wrap (0-a1)) 2).bind fun a2 =>
  some (.ok (a2,(volume_reader.mk y5.2.b)))) else ((N3 y5.1 2).bind fun a3 =>
  some (.ok (a3,(volume_reader.mk y5.2.b))))
def Bn (F:Nat) (p0:volume_reader):Option (Except (Value×volume_reader) (api_Span×volume_reader)) :=
  (Bo F p0).bind fun y5 =>
  exc y5 (fun e7=>some (.error (e7.1,(volume_reader.mk e7.2.b)))) fun y6 =>
  (Ag F (volume_reader.mk y6.2.b)).bind fun a3 =>
  exc a3 (fun a0=>some (.error (a0.1,(volume_reader.mk a0.2.b)))) fun a1 =>
  (ck (y6.1+a1.1)).bind fun a2 =>
  some (.ok ((api_Span.mk y6.1 a2),(volume_reader.mk a1.2.b)))
def F4 (F:Nat) (p0:volume_reader):Option (Except (Value×volume_reader) (api_Echo×volume_reader)) :=
  (Ag F p0).bind fun y5 =>
  exc y5 (fun e7=>some (.error (e7.1,(volume_reader.mk e7.2.b)))) fun y6 =>
  bif (y6.1==1) then ((Ag F (volume_reader.mk y6.2.b)).bind fun aI =>
  exc aI (fun a9=>some (.error (a9.1,(volume_reader.mk a9.2.b)))) fun aF =>
  some (.ok ((api_Echo.mk y6.1 (api_Span.mk 0 aF.1) ((api_Span.mk 0 0),(api_Span.mk 0 0)) 0 (api_Span.mk 0 0) (api_Span.mk 0 0) (api_Span.mk 0 0)),(volume_reader.mk aF.2.b)))) else ((Bn F (volume_reader.mk y6.2.b)).bind fun aJ =>
  exc aJ (fun aA=>some (.error (aA.1,(volume_reader.mk aA.2.b)))) fun a0 =>
  (Bn F (volume_reader.mk a0.2.b)).bind fun aK =>
  exc aK (fun aB=>some (.error (aB.1,(volume_reader.mk aB.2.b)))) fun a1 =>
  (Bn F (volume_reader.mk a1.2.b)).bind fun aL =>
  exc aL (fun aC=>some (.error (aC.1,(volume_reader.mk aC.2.b)))) fun a2 =>
  (Ag F (volume_reader.mk a2.2.b)).bind fun aM =>
  exc aM (fun aD=>some (.error (aD.1,(volume_reader.mk aD.2.b)))) fun a3 =>
  bif (y6.1==3) then ((Bn F (volume_reader.mk a3.2.b)).bind fun aN =>
  exc aN (fun aE=>some (.error (aE.1,(volume_reader.mk aE.2.b)))) fun a6 =>
  (Bn F (volume_reader.mk a6.2.b)).bind fun aG =>
  exc aG (fun a7=>some (.error (a7.1,(volume_reader.mk a7.2.b)))) fun a4 =>
  (Bn F (volume_reader.mk a4.2.b)).bind fun aH =>
  exc aH (fun a8=>some (.error (a8.1,(volume_reader.mk a8.2.b)))) fun a5 =>
  some (.ok ((api_Echo.mk y6.1 (api_Span.mk a0.1.Lo a0.1.Hi) ((api_Span.mk a6.1.Lo a6.1.Hi),(api_Span.mk a4.1.Lo a4.1.Hi)) a3.1 (api_Span.mk a1.1.Lo a1.1.Hi) (api_Span.mk a2.1.Lo a2.1.Hi) (api_Span.mk a5.1.Lo a5.1.Hi)),(volume_reader.mk a5.2.b)))) else (some (.ok ((api_Echo.mk y6.1 (api_Span.mk a0.1.Lo a0.1.Hi) ((api_Span.mk 0 0),(api_Span.mk 0 0)) a3.1 (api_Span.mk a1.1.Lo a1.1.Hi) (api_Span.mk a2.1.Lo a2.1.Hi) (api_Span.mk 0 0)),(volume_reader.mk a3.2.b)))))
def C2 (a2:Int) (a3:Int) (a4:Int) (a5:Int) (a6:Int) (a7:Int) (a8:Int) (a9:Int) (aA:Int) (aB:Int) (aC:Int) (aD:Int) (aE:Int) (aF:Int) (a0:(List Int)) (a1:(List api_Echo)):Option (Except (Value×volume_reader) ((List api_Echo)×volume_reader)) :=
  some (.ok (a1,(volume_reader.mk a0)))
def Cw (k2:(Int→Int→Int→Int→Int→Int→Int→Int→Int→Int→Int→Int→Int→Int→(List Int)→(List api_Echo)→Option (Except (Value×volume_reader) ((List api_Echo)×volume_reader)))) (a1:(List api_Echo)) (a0:(api_Echo×volume_reader)):Option (Except (Value×volume_reader) ((List api_Echo)×volume_reader)) :=
  (apd 112 a1 ([(api_Echo.mk a0.1.Kind (api_Span.mk a0.1.Power.Lo a0.1.Power.Hi) ((api_Span.mk a0.1.Steps.1.Lo a0.1.Steps.1.Hi),(api_Span.mk a0.1.Steps.2.Lo a0.1.Steps.2.Hi)) a0.1.Spread (api_Span.mk a0.1.Ratio.Lo a0.1.Ratio.Hi) (api_Span.mk a0.1.Match.Lo a0.1.Match.Hi) (api_Span.mk a0.1.Turn.Lo a0.1.Turn.Hi))])).bind fun a2 =>
  k2 a0.1.Kind a0.1.Power.Lo a0.1.Match.Lo a0.1.Match.Hi a0.1.Turn.Lo a0.1.Turn.Hi a0.1.Power.Hi a0.1.Steps.1.Lo a0.1.Steps.1.Hi a0.1.Steps.2.Lo a0.1.Steps.2.Hi a0.1.Spread a0.1.Ratio.Lo a0.1.Ratio.Hi a0.2.b a2
def C3 (F:Nat) (p1:Int) (a3:Int) (a4:Int) (a5:Int) (a6:Int) (a7:Int) (a8:Int) (a9:Int) (aA:Int) (aB:Int) (aC:Int) (aD:Int) (aE:Int) (aF:Int) (aG:Int) (k2:(Int→Int→Int→Int→Int→Int→Int→Int→Int→Int→Int→Int→Int→Int→(List Int)→(List api_Echo)→Option (Except (Value×volume_reader) ((List api_Echo)×volume_reader)))) (aH:(Int×volume_reader)) (a1:(List api_Echo)):Option (Except (Value×volume_reader) ((List api_Echo)×volume_reader)) :=
  bif (decide (((a1.length:Nat):Int)<p1)) then ((F4 F (volume_reader.mk aH.2.b)).bind fun aI =>
  exc aI (fun a2=>some (.error (a2.1,(volume_reader.mk a2.2.b)))) fun a0 =>
  bif (((a0.1.Kind:Int)==a3)&&((((a0.1.Power.Lo:Int)==a4)&&(((a0.1.Power.Hi:Int)==a9)&&true))&&(((((a0.1.Steps.1.Lo:Int)==aA)&&(((a0.1.Steps.1.Hi:Int)==aB)&&true))&&((((a0.1.Steps.2.Lo:Int)==aC)&&(((a0.1.Steps.2.Hi:Int)==aD)&&true))&&true))&&(((a0.1.Spread:Int)==aE)&&((((a0.1.Ratio.Lo:Int)==aF)&&(((a0.1.Ratio.Hi:Int)==aG)&&true))&&((((a0.1.Match.Lo:Int)==a5)&&(((a0.1.Match.Hi:Int)==a6)&&true))&&((((a0.1.Turn.Lo:Int)==a7)&&(((a0.1.Turn.Hi:Int)==a8)&&true))&&true))))))) then (some (.error (.iface 101 (.int .i64 7),(volume_reader.mk a0.2.b)))) else (Cw k2 a1 a0)) else (k2 a3 a4 a5 a6 a7 a8 a9 aA aB aC aD aE aF aG aH.2.b a1)
def Cu (F:Nat) (p1:Int) (a1:Int) (a2:Int) (a3:Int) (a4:Int) (a5:Int) (a6:Int) (a7:Int) (a8:Int) (a9:Int) (aA:Int) (aB:Int) (aC:Int) (aD:Int) (aE:Int) (k2:(Int→Int→Int→Int→Int→Int→Int→Int→Int→Int→Int→Int→Int→Int→(List Int)→(List api_Echo)→Option (Except (Value×volume_reader) ((List api_Echo)×volume_reader)))) (aG:(Int×volume_reader)) (k6:(Int→(List api_Echo)→Option (Except (Value×volume_reader) ((List api_Echo)×volume_reader)))) (aF:Int) (a0:(List api_Echo)):Option (Except (Value×volume_reader) ((List api_Echo)×volume_reader)) :=
  bif (decide (aF<aG.1)) then ((apd 112 a0 ([(api_Echo.mk a1 (api_Span.mk a2 a7) ((api_Span.mk a8 a9),(api_Span.mk aA aB)) aC (api_Span.mk aD aE) (api_Span.mk a3 a4) (api_Span.mk a5 a6))])).bind fun aH =>
  (ck (aF+1)).bind fun aI =>
  k6 aI aH) else (C3 F p1 a1 a2 a3 a4 a5 a6 a7 a8 a9 aA aB aC aD aE k2 aG a0)
def Bb (F:Nat) (p1:Int) (a0:Int) (a1:Int) (a2:Int) (a3:Int) (a4:Int) (a5:Int) (a6:Int) (a7:Int) (a8:Int) (a9:Int) (aA:Int) (aB:Int) (aC:Int) (aD:Int) (k2:(Int→Int→Int→Int→Int→Int→Int→Int→Int→Int→Int→Int→Int→Int→(List Int)→(List api_Echo)→Option (Except (Value×volume_reader) ((List api_Echo)×volume_reader)))) (aE:(Int×volume_reader)):Nat→Int→(List api_Echo)→Option (Except (Value×volume_reader) ((List api_Echo)×volume_reader))
  | 0,_,_=>none
  | n+1,aG,aF=>Cu F p1 a0 a1 a2 a3 a4 a5 a6 a7 a8 a9 aA aB aC aD k2 aE (Bb F p1 a0 a1 a2 a3 a4 a5 a6 a7 a8 a9 aA aB aC aD k2 aE n) aG aF
def Cv (F:Nat) (p1:Int) (a1:Int) (a2:Int) (a3:Int) (a4:Int) (a5:Int) (a6:Int) (a7:Int) (a8:Int) (a9:Int) (aA:Int) (aB:Int) (aC:Int) (aD:Int) (aE:Int) (a0:(List api_Echo)) (k2:(Int→Int→Int→Int→Int→Int→Int→Int→Int→Int→Int→Int→Int→Int→(List Int)→(List api_Echo)→Option (Except (Value×volume_reader) ((List api_Echo)×volume_reader)))) (aF:(Int×volume_reader)):Option (Except (Value×volume_reader) ((List api_Echo)×volume_reader)) :=
  Bb F p1 a1 a2 a3 a4 a5 a6 a7 a8 a9 aA aB aC aD aE k2 aF F 0 a0
def C1 (F:Nat) (p1:Int) (k2:(Int→Int→Int→Int→Int→Int→Int→Int→Int→Int→Int→Int→Int→Int→(List Int)→(List api_Echo)→Option (Except (Value×volume_reader) ((List api_Echo)×volume_reader)))) (a4:Int) (a5:Int) (a6:Int) (a7:Int) (a8:Int) (a9:Int) (aA:Int) (aB:Int) (aC:Int) (aD:Int) (aE:Int) (aF:Int) (aG:Int) (aH:Int) (a3:(List Int)) (a0:(List api_Echo)):Option (Except (Value×volume_reader) ((List api_Echo)×volume_reader)) :=
  bif (decide (((a0.length:Nat):Int)<p1)) then ((Ag F (volume_reader.mk a3)).bind fun aJ =>
  exc aJ (fun a2=>some (.error (a2.1,(volume_reader.mk a2.2.b)))) fun a1 =>
  (ck (p1-((a0.length:Nat):Int))).bind fun aI =>
  bif (decide (a1.1>aI)) then (some (.error (.iface 101 (.int .i64 7),(volume_reader.mk a1.2.b)))) else (Cv F p1 a4 a5 a6 a7 a8 a9 aA aB aC aD aE aF aG aH a0 k2 a1)) else (C2 a4 a5 a6 a7 a8 a9 aA aB aC aD aE aF aG aH a3 a0)
def B4 (F:Nat) (p1:Int):Nat→Int→Int→Int→Int→Int→Int→Int→Int→Int→Int→Int→Int→Int→Int→(List Int)→(List api_Echo)→Option (Except (Value×volume_reader) ((List api_Echo)×volume_reader))
  | 0,_,_,_,_,_,_,_,_,_,_,_,_,_,_,_,_=>none
  | n+1,a2,a3,a4,a5,a6,a7,a8,a9,aA,aB,aC,aD,aE,aF,a0,a1=>C1 F p1 (B4 F p1 n) a2 a3 a4 a5 a6 a7 a8 a9 aA aB aC aD aE aF a0 a1
def Cf (F:Nat) (p0:volume_reader) (p1:Int) (p2:api_Echo):Option (Except (Value×volume_reader) ((List api_Echo)×volume_reader)) :=
  B4 F p1 F p2.Kind p2.Power.Lo p2.Match.Lo p2.Match.Hi p2.Turn.Lo p2.Turn.Hi p2.Power.Hi p2.Steps.1.Lo p2.Steps.1.Hi p2.Steps.2.Lo p2.Steps.2.Hi p2.Spread p2.Ratio.Lo p2.Ratio.Hi p0.b ([])
def C5 (a2:Int) (a3:Int) (a0:(List Int)) (a1:(List api_Span)):Option (Except (Value×volume_reader) ((List api_Span)×volume_reader)) :=
  some (.ok (a1,(volume_reader.mk a0)))
def Cz (k2:(Int→Int→(List Int)→(List api_Span)→Option (Except (Value×volume_reader) ((List api_Span)×volume_reader)))) (a1:(List api_Span)) (a0:(api_Span×volume_reader)):Option (Except (Value×volume_reader) ((List api_Span)×volume_reader)) :=
  (apd 16 a1 ([(api_Span.mk a0.1.Lo a0.1.Hi)])).bind fun a2 =>
  k2 a0.1.Lo a0.1.Hi a0.2.b a2
def C6 (F:Nat) (p1:Int) (a3:Int) (a4:Int) (k2:(Int→Int→(List Int)→(List api_Span)→Option (Except (Value×volume_reader) ((List api_Span)×volume_reader)))) (a5:(Int×volume_reader)) (a1:(List api_Span)):Option (Except (Value×volume_reader) ((List api_Span)×volume_reader)) :=
  bif (decide (((a1.length:Nat):Int)<p1)) then ((Bn F (volume_reader.mk a5.2.b)).bind fun a6 =>
  exc a6 (fun a2=>some (.error (a2.1,(volume_reader.mk a2.2.b)))) fun a0 =>
  bif (((a0.1.Lo:Int)==a3)&&(((a0.1.Hi:Int)==a4)&&true)) then (some (.error (.iface 101 (.int .i64 7),(volume_reader.mk a0.2.b)))) else (Cz k2 a1 a0)) else (k2 a3 a4 a5.2.b a1)
def Cx (F:Nat) (p1:Int) (a1:Int) (a2:Int) (k2:(Int→Int→(List Int)→(List api_Span)→Option (Except (Value×volume_reader) ((List api_Span)×volume_reader)))) (a4:(Int×volume_reader)) (k6:(Int→(List api_Span)→Option (Except (Value×volume_reader) ((List api_Span)×volume_reader)))) (a3:Int) (a0:(List api_Span)):Option (Except (Value×volume_reader) ((List api_Span)×volume_reader)) :=
  bif (decide (a3<a4.1)) then ((apd 16 a0 ([(api_Span.mk a1 a2)])).bind fun a5 =>
  (ck (a3+1)).bind fun a6 =>
  k6 a6 a5) else (C6 F p1 a1 a2 k2 a4 a0)
def Bc (F:Nat) (p1:Int) (a0:Int) (a1:Int) (k2:(Int→Int→(List Int)→(List api_Span)→Option (Except (Value×volume_reader) ((List api_Span)×volume_reader)))) (a2:(Int×volume_reader)):Nat→Int→(List api_Span)→Option (Except (Value×volume_reader) ((List api_Span)×volume_reader))
  | 0,_,_=>none
  | n+1,a4,a3=>Cx F p1 a0 a1 k2 a2 (Bc F p1 a0 a1 k2 a2 n) a4 a3
def Cy (F:Nat) (p1:Int) (a1:Int) (a2:Int) (a0:(List api_Span)) (k2:(Int→Int→(List Int)→(List api_Span)→Option (Except (Value×volume_reader) ((List api_Span)×volume_reader)))) (a3:(Int×volume_reader)):Option (Except (Value×volume_reader) ((List api_Span)×volume_reader)) :=
  Bc F p1 a1 a2 k2 a3 F 0 a0
def C4 (F:Nat) (p1:Int) (k2:(Int→Int→(List Int)→(List api_Span)→Option (Except (Value×volume_reader) ((List api_Span)×volume_reader)))) (a4:Int) (a5:Int) (a3:(List Int)) (a0:(List api_Span)):Option (Except (Value×volume_reader) ((List api_Span)×volume_reader)) :=
  bif (decide (((a0.length:Nat):Int)<p1)) then ((Ag F (volume_reader.mk a3)).bind fun a7 =>
  exc a7 (fun a2=>some (.error (a2.1,(volume_reader.mk a2.2.b)))) fun a1 =>
  (ck (p1-((a0.length:Nat):Int))).bind fun a6 =>
  bif (decide (a1.1>a6)) then (some (.error (.iface 101 (.int .i64 7),(volume_reader.mk a1.2.b)))) else (Cy F p1 a4 a5 a0 k2 a1)) else (C5 a4 a5 a3 a0)
def B5 (F:Nat) (p1:Int):Nat→Int→Int→(List Int)→(List api_Span)→Option (Except (Value×volume_reader) ((List api_Span)×volume_reader))
  | 0,_,_,_,_=>none
  | n+1,a2,a3,a0,a1=>C4 F p1 (B5 F p1 n) a2 a3 a0 a1
def Cg (F:Nat) (p0:volume_reader) (p1:Int) (p2:api_Span):Option (Except (Value×volume_reader) ((List api_Span)×volume_reader)) :=
  B5 F p1 F p2.Lo p2.Hi p0.b ([])
def Ew (a0:(List Int)):Option (Except (Value×volume_reader) (volume_thing×volume_reader)) :=
  some (.error (.iface 101 (.int .i64 7),(volume_reader.mk a0)))
def Dt (a8:(ByteArray×volume_reader)) (a9:(Int×volume_reader)) (aA:(Int×volume_reader)) (a1:Int) (a2:Int) (a3:Int) (a4:Int) (a5:Int) (a6:Int) (a7:Int) (aB:((List api_Echo)×volume_reader)) (a0:(List (List api_Echo))):Option (Except (Value×volume_reader) (volume_thing×volume_reader)) :=
  some (.ok ((volume_thing.ic112 (volume_sweep.mk (api_Sweep.mk (api_Site.mk a8.1 a9.1 aA.1 a1 a2 a3 a4 a5) a6 a7 a0))),(volume_reader.mk aB.2.b)))
def Ev (aC:(ByteArray×volume_reader)) (aD:(Int×volume_reader)) (aE:(Int×volume_reader)) (a6:Int) (a7:Int) (a1:Int) (a8:Int) (a9:Int) (aA:Int) (aB:Int) (aF:((List api_Echo)×volume_reader)) (k4:((List (List api_Echo))→(List api_Echo)→Option (Except (Value×volume_reader) (volume_thing×volume_reader)))) (a2:(List (List api_Echo))) (a0:(List api_Echo)):Option (Except (Value×volume_reader) (volume_thing×volume_reader)) :=
  bif (decide (((a0.length:Nat):Int)>0)) then ((Hg a0 (0:Int) a1).bind fun a3 =>
  (apd 24 a2 ([a3])).bind fun a4 =>
  (Hg a0 a1 ((a0.length:Nat):Int)).bind fun a5 =>
  k4 a4 a5) else (Dt aC aD aE a6 a7 a1 a8 a9 aA aB aF a2)
def C9 (a7:(ByteArray×volume_reader)) (a8:(Int×volume_reader)) (a9:(Int×volume_reader)) (a0:Int) (a1:Int) (a2:Int) (a3:Int) (a4:Int) (a5:Int) (a6:Int) (aA:((List api_Echo)×volume_reader)):Nat→(List (List api_Echo))→(List api_Echo)→Option (Except (Value×volume_reader) (volume_thing×volume_reader))
  | 0,_,_=>none
  | n+1,aB,aC=>Ev a7 a8 a9 a0 a1 a2 a3 a4 a5 a6 aA (C9 a7 a8 a9 a0 a1 a2 a3 a4 a5 a6 aA n) aB aC
def Dr (F:Nat) (a7:(ByteArray×volume_reader)) (a8:(Int×volume_reader)) (a9:(Int×volume_reader)) (a4:Int) (a0:Int) (a1:Int) (a5:Int) (a6:Int) (aB:Int) (aC:Int) (a3:(List Int)):Option (Except (Value×volume_reader) (volume_thing×volume_reader)) :=
  (Gn F (api_Site.mk a7.1 a8.1 a9.1 a4 a0 a1 a5 a6)).bind fun aF =>
  (H0 F aF).bind fun aG =>
  exc aG (fun v_=>some (.error (v_,(volume_reader.mk a3)))) fun aI =>
  (ck (4*a0)).bind fun aD =>
  (ck (aD*a1)).bind fun aE =>
  (Cf F (volume_reader.mk a3) aE (api_Echo.mk 1 (api_Span.mk 0 0) ((api_Span.mk 0 0),(api_Span.mk 0 0)) 0 (api_Span.mk 0 0) (api_Span.mk 0 0) (api_Span.mk 0 0))).bind fun aH =>
  exc aH (fun a2=>some (.error (a2.1,(volume_reader.mk a2.2.b)))) fun aA =>
  C9 a7 a8 a9 a4 a0 a1 a5 a6 aB aC aA F ([]) aA.1
def Cc (F:Nat) (p0:volume_reader):Option (Except (Value×volume_reader) (volume_thing×volume_reader)) :=
  (Ag F p0).bind fun bL =>
  exc bL (fun aK=>some (.error (aK.1,(volume_reader.mk aK.2.b)))) fun a0 =>
  bif (a0.1==1) then ((De F (volume_reader.mk a0.2.b)).bind fun bM =>
  exc bM (fun aL=>some (.error (aL.1,(volume_reader.mk aL.2.b)))) fun b0 =>
  (Bo F (volume_reader.mk b0.2.b)).bind fun bN =>
  exc bN (fun aM=>some (.error (aM.1,(volume_reader.mk aM.2.b)))) fun b1 =>
  (Bo F (volume_reader.mk b1.2.b)).bind fun bO =>
  exc bO (fun aN=>some (.error (aN.1,(volume_reader.mk aN.2.b)))) fun b2 =>
  (Ag F (volume_reader.mk b2.2.b)).bind fun bP =>
  exc bP (fun aO=>some (.error (aO.1,(volume_reader.mk aO.2.b)))) fun b3 =>
  (Ag F (volume_reader.mk b3.2.b)).bind fun bQ =>
  exc bQ (fun aP=>some (.error (aP.1,(volume_reader.mk aP.2.b)))) fun b4 =>
  (Ag F (volume_reader.mk b4.2.b)).bind fun bR =>
  exc bR (fun aQ=>some (.error (aQ.1,(volume_reader.mk aQ.2.b)))) fun b5 =>
  (Ag F (volume_reader.mk b5.2.b)).bind fun bS =>
  exc bS (fun a6=>some (.error (a6.1,(volume_reader.mk a6.2.b)))) fun aR =>
  (Ag F (volume_reader.mk aR.2.b)).bind fun b7 =>
  exc b7 (fun a7=>some (.error (a7.1,(volume_reader.mk a7.2.b)))) fun aS =>
  (Ag F (volume_reader.mk aS.2.b)).bind fun b8 =>
  exc b8 (fun a8=>some (.error (a8.1,(volume_reader.mk a8.2.b)))) fun aT =>
  (Ag F (volume_reader.mk aT.2.b)).bind fun b9 =>
  exc b9 (fun a9=>some (.error (a9.1,(volume_reader.mk a9.2.b)))) fun aU =>
  Dr F b0 b1 b2 b3.1 b4.1 b5.1 aR.1 aS.1 aT.1 aU.1 aU.2.b) else (bif (a0.1==2) then ((De F (volume_reader.mk a0.2.b)).bind fun bA =>
  exc bA (fun aA=>some (.error (aA.1,(volume_reader.mk aA.2.b)))) fun aV =>
  (Ag F (volume_reader.mk aV.2.b)).bind fun bB =>
  exc bB (fun aB=>some (.error (aB.1,(volume_reader.mk aB.2.b)))) fun aW =>
  (Bo F (volume_reader.mk aW.2.b)).bind fun bC =>
  exc bC (fun aC=>some (.error (aC.1,(volume_reader.mk aC.2.b)))) fun a3 =>
  (Bo F (volume_reader.mk a3.2.b)).bind fun bD =>
  exc bD (fun aD=>some (.error (aD.1,(volume_reader.mk aD.2.b)))) fun a4 =>
  (Ag F (volume_reader.mk a4.2.b)).bind fun bE =>
  exc bE (fun aE=>some (.error (aE.1,(volume_reader.mk aE.2.b)))) fun a5 =>
  (Ag F (volume_reader.mk a5.2.b)).bind fun bF =>
  exc bF (fun aF=>some (.error (aF.1,(volume_reader.mk aF.2.b)))) fun a2 =>
  (Ag F (volume_reader.mk a2.2.b)).bind fun bG =>
  exc bG (fun aG=>some (.error (aG.1,(volume_reader.mk aG.2.b)))) fun a1 =>
  (H0 F (Bd (api_Grid.mk a3.1 a4.1 a5.1 a2.1 a1.1))).bind fun bH =>
  exc bH (fun v_=>some (.error (v_,(volume_reader.mk a1.2.b)))) fun bT =>
  (ck (a2.1*a1.1)).bind fun b6 =>
  (Cg F (volume_reader.mk a1.2.b) b6 (api_Span.mk 0 0)).bind fun bI =>
  exc bI (fun aH=>some (.error (aH.1,(volume_reader.mk aH.2.b)))) fun aX =>
  some (.ok ((volume_thing.ic114 (volume_field.mk aV.1 aW.1 (api_Field.mk (api_Grid.mk a3.1 a4.1 a5.1 a2.1 a1.1) aX.1))),(volume_reader.mk aX.2.b)))) else (bif (a0.1==3) then ((Ag F (volume_reader.mk a0.2.b)).bind fun bJ =>
  exc bJ (fun aI=>some (.error (aI.1,(volume_reader.mk aI.2.b)))) fun aY =>
  (De F (volume_reader.mk aY.2.b)).bind fun bK =>
  exc bK (fun aJ=>some (.error (aJ.1,(volume_reader.mk aJ.2.b)))) fun aZ =>
  some (.ok ((volume_thing.ic116 (volume_note.mk aY.1 aZ.1)),(volume_reader.mk aZ.2.b)))) else (Ew a0.2.b)))
def Dn (F:Nat) (p0:volume_thing):Option Int:=p0.cs none (fun y=>D4 F y) (fun y=>D3 F y) (fun y=>Di F y)
def Hf (F:Nat) (p0:(List Int)):Option (volume_thing×Int) :=
  (Ct F (volume_reader.mk p0)).bind fun y7 =>
  bif (!y7.2.1) then (some (volume_thing.nil_,15)) else ((ck (y7.1+5)).bind fun a5 =>
  bif (((y7.2.2.b.length:Nat):Int) != a5) then (some (volume_thing.nil_,15)) else ((ck (((p0.length:Nat):Int)-5)).bind fun a6 =>
  (Hg p0 a6 ((p0.length:Nat):Int)).bind fun a2 =>
  (ck (((p0.length:Nat):Int)-5)).bind fun a7 =>
  (Hg p0 (0:Int) a7).bind fun a3 =>
  (Jg F a3).bind fun a8 =>
  bif (!(Em a2 a8)) then (some (volume_thing.nil_,15)) else ((Hg y7.2.2.b (0:Int) y7.1).bind fun a4 =>
  (Cc F (volume_reader.mk a4)).bind fun a9 =>
  exc a9 (fun a1=>(asI 101 .i64 a1.1).bind fun aC =>
  some (volume_thing.nil_,aC)) fun a0 =>
  (Dn F a0.1).bind fun aA =>
  (H0 F aA).bind fun aB =>
  exc aB (fun v_=>(asI 101 .i64 v_).bind fun aD =>
  some (volume_thing.nil_,aD)) fun aE =>
  bif (decide (((a0.2.b.length:Nat):Int)>0)) then (some (volume_thing.nil_,7)) else (some (a0.1,0)))))
def Hv (F:Nat) (p0:(List Int)) (a1:Bool):Option Bool :=
  (Ct F (volume_reader.mk p0)).bind fun a0 =>
  bif a1 then (some true) else (bif a0.2.1 then ((ck (a0.1+5)).bind fun a2 =>
  some (decide (((a0.2.2.b.length:Nat):Int)<a2))) else (some false))
def K6 (F:Nat) (p0:(List Int)) (k2:(Int→Bool→Option Bool)) (a0:Int) (a1:Bool):Option Bool :=
  bif (decide (a0<((p0.length:Nat):Int))) then ((E0 p0 a0).bind fun a2 =>
  (ck (a0+1)).bind fun a3 =>
  k2 a3 (bif (bif a1 then (decide (a2≥128)) else false) then (decide (a2≤254)) else false)) else (Hv F p0 a1)
def Gy (F:Nat) (p0:(List Int)):Nat→Int→Bool→Option Bool
  | 0,_,_=>none
  | n+1,a1,a0=>K6 F p0 (Gy F p0 n) a1 a0
def L6 (F:Nat) (p0:(List Int)):Option Bool :=
  Gy F p0 F 0 true
def Hj (F:Nat) (p0:volume_thing):Option volume_Item:=p0.cs none (fun y=>some (A3 y)) (fun y=>some (A2 y)) (fun y=>some (A4 y))
def Ep (a0:(List volume_Item)) (a1:Int) (a2:Int):Option ((List volume_Item)×Int×Int) :=
  bif (decide (((a0.length:Nat):Int)>1000)) then (some (([]:(List volume_Item)),0,9)) else (some (a0,a1,a2))
def Gw (F:Nat) (p0:(List Int)) (s_r:((List volume_Item)×Int×Int×Nat)) (x_:(Int×(List Int))):Option (((List volume_Item)×Int×Int×Nat)×Bool) :=
  (Hf F x_.2).bind fun a0 =>
  bif (a0.2 != 0) then ((ck (x_.1+1)).bind fun a3 =>
  (ck (a3+((x_.2.length:Nat):Int))).bind fun a1 =>
  (gd (((a1==((p0.length:Nat):Int))==true&&true)) (L6 F x_.2) default).bind fun a4 =>
  bif (bif (a1==((p0.length:Nat):Int)) then a4 else false) then (some ((s_r.1,x_.1,16,3),false)) else (some ((s_r.1,x_.1,a0.2,3),false))) else ((Hj F a0.1).bind fun a5 =>
  (apd 224 s_r.1 ([a5])).bind fun a2 =>
  some ((a2,s_r.2.1,s_r.2.2.1,0),true))
def Ht (tg_:Nat):Code:=(bif (tg_==3) then .exit 1 else .ret)
def D2 (F:Nat) (p0:(List Int)):Option ((List volume_Item)×Int×Int) :=
  bif (decide (((p0.length:Nat):Int)>16777216)) then (some (([]:(List volume_Item)),0,8)) else ((H8 F p0 ([82,86,70,49])).bind fun y9 =>
  (gd (((decide (((p0.length:Nat):Int)>4))==true&&((!y9)==false&&true))) (E0 p0 4) default).bind fun a1 =>
  bif (bif (!y9) then true else (bif (decide (((p0.length:Nat):Int)>4)) then (a1 != 0) else false)) then (some (([]:(List volume_Item)),0,7)) else ((Ey F p0 (Gw F p0) (([]:List volume_Item),((p0.length:Nat):Int),0,0)).bind fun a0 =>
  bif a0.2 then (Ep a0.1.1 a0.1.2.1 a0.1.2.2.1) else (bif (a0.1.2.2.2==3) then (Ep a0.1.1 a0.1.2.1 a0.1.2.2.1) else (none))))
def Jo:Option Bool :=
  some true
def Jn (p0:(List Int)) (p1:(List Int)) (k2:(Int→Option Bool)) (a0:Int):Option Bool :=
  bif (decide (a0<((p0.length:Nat):Int))) then ((E0 p0 a0).bind fun a1 =>
  (E0 p1 a0).bind fun a2 =>
  bif (a1 != a2) then (some false) else ((ck (a0+1)).bind fun a3 =>
  k2 a3)) else (Jo)
def Gq (p0:(List Int)) (p1:(List Int)):Nat→Int→Option Bool
  | 0,_=>none
  | n+1,a0=>Jn p0 p1 (Gq p0 p1 n) a0
def Fa (F:Nat) (p0:(List Int)) (p1:(List Int)):Option Bool :=
  bif (((p0.length:Nat):Int) != ((p1.length:Nat):Int)) then (some false) else (Gq p0 p1 F 0)
def Jv:Option Bool :=
  some true
def Ho (a1:Int) (k2:(Int→Option Bool)):Option Bool :=
  (ck (a1+1)).bind fun a0 =>
  k2 a0
def Ju (p0:api_Sweep) (p1:api_Sweep) (a3:Int) (k2:(Int→Option Bool)) (k4:(Int→Option Bool)) (a2:Int):Option Bool :=
  (E0 p0.Rays a3).bind fun a4 =>
  bif (decide (a2<((a4.length:Nat):Int))) then ((E0 p0.Rays a3).bind fun a5 =>
  (E0 a5 a2).bind fun a0 =>
  (E0 p1.Rays a3).bind fun a6 =>
  (E0 a6 a2).bind fun a1 =>
  bif (!(((a0.Kind:Int)==a1.Kind)&&((((a0.Power.Lo:Int)==a1.Power.Lo)&&(((a0.Power.Hi:Int)==a1.Power.Hi)&&true))&&(((((a0.Steps.1.Lo:Int)==a1.Steps.1.Lo)&&(((a0.Steps.1.Hi:Int)==a1.Steps.1.Hi)&&true))&&((((a0.Steps.2.Lo:Int)==a1.Steps.2.Lo)&&(((a0.Steps.2.Hi:Int)==a1.Steps.2.Hi)&&true))&&true))&&(((a0.Spread:Int)==a1.Spread)&&((((a0.Ratio.Lo:Int)==a1.Ratio.Lo)&&(((a0.Ratio.Hi:Int)==a1.Ratio.Hi)&&true))&&((((a0.Match.Lo:Int)==a1.Match.Lo)&&(((a0.Match.Hi:Int)==a1.Match.Hi)&&true))&&((((a0.Turn.Lo:Int)==a1.Turn.Lo)&&(((a0.Turn.Hi:Int)==a1.Turn.Hi)&&true))&&true)))))))) then (some false) else ((ck (a2+1)).bind fun a7 =>
  k4 a7)) else (Ho a3 k2)
def Gt (p0:api_Sweep) (p1:api_Sweep) (a0:Int) (k2:(Int→Option Bool)):Nat→Int→Option Bool
  | 0,_=>none
  | n+1,a1=>Ju p0 p1 a0 k2 (Gt p0 p1 a0 k2 n) a1
def Jt (F:Nat) (p0:api_Sweep) (p1:api_Sweep) (k2:(Int→Option Bool)) (a0:Int):Option Bool :=
  bif (decide (a0<((p0.Rays.length:Nat):Int))) then ((E0 p0.Rays a0).bind fun a1 =>
  (E0 p1.Rays a0).bind fun a2 =>
  bif (((a1.length:Nat):Int) != ((a2.length:Nat):Int)) then (some false) else (Gt p0 p1 a0 k2 F 0)) else (Jv)
def Fh (F:Nat) (p0:api_Sweep) (p1:api_Sweep):Nat→Int→Option Bool
  | 0,_=>none
  | n+1,a0=>Jt F p0 p1 (Fh F p0 p1 n) a0
def Kz (F:Nat) (p0:api_Sweep) (p1:api_Sweep):Option Bool :=
  bif (bif (bif (bif (!((p0.Site.Name==p1.Site.Name)&&(((p0.Site.X:Int)==p1.Site.X)&&(((p0.Site.Y:Int)==p1.Site.Y)&&(((p0.Site.Z:Int)==p1.Site.Z)&&(((p0.Site.Rose:Int)==p1.Site.Rose)&&(((p0.Site.Gates:Int)==p1.Site.Gates)&&(((p0.Site.Step:Int)==p1.Site.Step)&&(((p0.Site.Width:Int)==p1.Site.Width)&&true))))))))) then true else (p0.Tilt != p1.Tilt)) then true else (p0.Time != p1.Time)) then true else (((p0.Rays.length:Nat):Int) != ((p1.Rays.length:Nat):Int))) then (some false) else (Fh F p0 p1 F 0)
def Jq:Option Bool :=
  some true
def Jp (p0:api_Field) (p1:api_Field) (k2:(Int→Option Bool)) (a0:Int):Option Bool :=
  bif (decide (a0<((p0.Vals.length:Nat):Int))) then ((E0 p0.Vals a0).bind fun a1 =>
  (E0 p1.Vals a0).bind fun a2 =>
  bif (!(((a1.Lo:Int)==a2.Lo)&&(((a1.Hi:Int)==a2.Hi)&&true))) then (some false) else ((ck (a0+1)).bind fun a3 =>
  k2 a3)) else (Jq)
def Gr (p0:api_Field) (p1:api_Field):Nat→Int→Option Bool
  | 0,_=>none
  | n+1,a0=>Jp p0 p1 (Gr p0 p1 n) a0
def Kx (F:Nat) (p0:api_Field) (p1:api_Field):Option Bool :=
  bif (bif (!(((p0.Grid.X:Int)==p1.Grid.X)&&(((p0.Grid.Y:Int)==p1.Grid.Y)&&(((p0.Grid.Size:Int)==p1.Grid.Size)&&(((p0.Grid.Wide:Int)==p1.Grid.Wide)&&(((p0.Grid.High:Int)==p1.Grid.High)&&true)))))) then true else (((p0.Vals.length:Nat):Int) != ((p1.Vals.length:Nat):Int))) then (some false) else (Gr p0 p1 F 0)
def Hm (F:Nat) (p0:volume_Item) (p1:volume_Item):Option Bool :=
  (gd (((bif (bif (bif (p0.Kind==p1.Kind) then (sEq p0.Name p1.Name) else false) then (p0.Time==p1.Time) else false) then (sEq p0.Text p1.Text) else false)==true&&true)) (Kz F p0.Sweep p1.Sweep) default).bind fun a0 =>
  (gd (((bif (bif (bif (bif (p0.Kind==p1.Kind) then (sEq p0.Name p1.Name) else false) then (p0.Time==p1.Time) else false) then (sEq p0.Text p1.Text) else false) then a0 else false)==true&&true)) (Kx F p0.Field p1.Field) default).bind fun a1 =>
  some (bif (bif (bif (bif (bif (p0.Kind==p1.Kind) then (sEq p0.Name p1.Name) else false) then (p0.Time==p1.Time) else false) then (sEq p0.Text p1.Text) else false) then a0 else false) then a1 else false)
def K2 (F:Nat) (s_r:((List volume_Item)×Int×Nat)) (x_:(Int×(List Int))):Option (((List volume_Item)×Int×Nat)×Bool) :=
  (Hf F x_.2).bind fun a0 =>
  bif (a0.2==0) then ((Hj F a0.1).bind fun a3 =>
  (apd 224 s_r.1 ([a3])).bind fun a1 =>
  some ((a1,s_r.2.1,0),true)) else ((ck (s_r.2.1+1)).bind fun a2 =>
  some ((s_r.1,a2,0),true))
def K3 (tg_:Nat):Code:=.ret
def Lr (F:Nat) (p0:(List Int)):Option ((List volume_Item)×Int×Int) :=
  bif (decide (((p0.length:Nat):Int)>16777216)) then (some (([]:(List volume_Item)),0,8)) else ((Ey F p0 (K2 F) (([]:List volume_Item),0,0)).bind fun a0 =>
  bif a0.2 then (bif (decide (((a0.1.1.length:Nat):Int)>1000)) then (some (([]:(List volume_Item)),0,9)) else (some (a0.1.1,a0.1.2.1,0))) else (none))
def L0 (F:Nat):Option Bool :=
  (Gz F (volume_Item.mk 3 ByteArray.empty 5 (api_Sweep.mk (api_Site.mk ByteArray.empty 0 0 0 0 0 0 0) 0 0 ([]:(List (List api_Echo)))) (api_Field.mk (api_Grid.mk 0 0 0 0 0) ([]:(List api_Span))) (⟨#[97]⟩:ByteArray))).bind fun y3 =>
  (F9 F ([(volume_Item.mk 3 ByteArray.empty 5 (api_Sweep.mk (api_Site.mk ByteArray.empty 0 0 0 0 0 0 0) 0 0 ([]:(List (List api_Echo)))) (api_Field.mk (api_Grid.mk 0 0 0 0 0) ([]:(List api_Span))) (⟨#[97]⟩:ByteArray))])).bind fun y9 =>
  (D2 F y9.1).bind fun a4 =>
  bif (bif (bif (y3.2 != 0) then true else (y9.2 != 0)) then true else (a4.2.2 != 0)) then (some false) else ((Fa F y3.1 ([0,5,4,6,2,97,183,135,165,144,1])).bind fun aD =>
  bif (!aD) then (some false) else ((apd 1 ([82,86,70,49]) y3.1).bind fun a7 =>
  (Fa F y9.1 a7).bind fun aE =>
  bif (bif (bif (!aE) then true else (a4.2.1 != ((y9.1.length:Nat):Int))) then true else (((a4.1.length:Nat):Int) != 1)) then (some false) else ((E0 a4.1 0).bind fun aA =>
  (Hm F aA (volume_Item.mk 3 ByteArray.empty 5 (api_Sweep.mk (api_Site.mk ByteArray.empty 0 0 0 0 0 0 0) 0 0 ([]:(List (List api_Echo)))) (api_Field.mk (api_Grid.mk 0 0 0 0 0) ([]:(List api_Span))) (⟨#[97]⟩:ByteArray))).bind fun aF =>
  bif (!aF) then (some false) else ((E0 y9.1 8).bind fun aB =>
  (E0 y9.1 8).bind fun aG =>
  (Ty y9.1 8 (IntKind.u8.wrap (aB+1))).bind fun a8 =>
  (D2 F a8).bind fun a3 =>
  (D2 F ([82,86,70,49])).bind fun a1 =>
  (D2 F ([82,86,70,49,0,5,4])).bind fun a2 =>
  (D2 F ([82,86,70,50])).bind fun a5 =>
  (apd 1 ([120,0,121]) y3.1).bind fun a6 =>
  (Lr F a6).bind fun a0 =>
  bif (bif (bif (bif (bif (bif (bif (bif (bif (bif (a3.2.2==15) then (a1.2.2==0) else false) then (a2.2.2==16) else false) then (a5.2.2==7) else false) then (a0.2.2==0) else false) then (a3.2.1==4) else false) then (((a1.1.length:Nat):Int)==0) else false) then (a1.2.1==4) else false) then (a2.2.1==4) else false) then (((a0.1.length:Nat):Int)==1) else false) then ((E0 a0.1 0).bind fun a9 =>
  (Hm F a9 (volume_Item.mk 3 ByteArray.empty 5 (api_Sweep.mk (api_Site.mk ByteArray.empty 0 0 0 0 0 0 0) 0 0 ([]:(List (List api_Echo)))) (api_Field.mk (api_Grid.mk 0 0 0 0 0) ([]:(List api_Span))) (⟨#[97]⟩:ByteArray))).bind fun aC =>
  some (bif (bif (bif (bif (bif (bif (bif (bif (bif (bif (bif (a3.2.2==15) then (a1.2.2==0) else false) then (a2.2.2==16) else false) then (a5.2.2==7) else false) then (a0.2.2==0) else false) then (a3.2.1==4) else false) then (((a1.1.length:Nat):Int)==0) else false) then (a1.2.1==4) else false) then (a2.2.1==4) else false) then (((a0.1.length:Nat):Int)==1) else false) then aC else false) then (a0.2.1==1) else false)) else (some (bif (bif (bif (bif (bif (bif (bif (bif (bif (bif (bif (a3.2.2==15) then (a1.2.2==0) else false) then (a2.2.2==16) else false) then (a5.2.2==7) else false) then (a0.2.2==0) else false) then (a3.2.1==4) else false) then (((a1.1.length:Nat):Int)==0) else false) then (a1.2.1==4) else false) then (a2.2.1==4) else false) then (((a0.1.length:Nat):Int)==1) else false) then false else false) then (a0.2.1==1) else false))))))
def Js:Option Bool :=
  some true
def Jr (F:Nat) (p0:(List volume_Item)) (p1:(List volume_Item)) (k2:(Int→Option Bool)) (a0:Int):Option Bool :=
  bif (decide (a0<((p0.length:Nat):Int))) then ((E0 p0 a0).bind fun a1 =>
  (E0 p1 a0).bind fun a2 =>
  (Hm F a1 a2).bind fun a4 =>
  bif (!a4) then (some false) else ((ck (a0+1)).bind fun a3 =>
  k2 a3)) else (Js)
def Gs (F:Nat) (p0:(List volume_Item)) (p1:(List volume_Item)):Nat→Int→Option Bool
  | 0,_=>none
  | n+1,a0=>Jr F p0 p1 (Gs F p0 p1 n) a0
def Ky (F:Nat) (p0:(List volume_Item)) (p1:(List volume_Item)):Option Bool :=
  bif (((p0.length:Nat):Int) != ((p1.length:Nat):Int)) then (some false) else (Gs F p0 p1 F 0)
def Gh (F:Nat):Option Bool :=
  (L0 F).bind fun a0 =>
  some a0
def E7 (a0:Int) (k3:(Int→Option Bool)):Option Bool :=
  (ck (a0+1)).bind fun a1 =>
  k3 a1
def Gg (F:Nat) (aB:Int) (k3:(Int→Option Bool)) (a6:volume_Item) (a5:(List volume_Item)) (k5:(Int→Option Bool)) (a2:Int):Option Bool :=
  bif (decide (a2<((a5.length:Nat):Int))) then ((E0 a5 a2).bind fun a7 =>
  (Gz F a6).bind fun a0 =>
  (Gz F a7).bind fun a1 =>
  (gd (((bif (a0.2 != 0) then true else (a1.2 != 0))==false&&true)) (Fa F a0.1 a1.1) default).bind fun a3 =>
  (gd (((bif (a0.2 != 0) then true else (a1.2 != 0))==false&&true)) (Hm F a6 a7) default).bind fun a4 =>
  bif (bif (bif (a0.2 != 0) then true else (a1.2 != 0)) then true else (!(a3==a4))) then (bif (bif (bif (bif (a0.2 != 0) then true else (a1.2 != 0)) then true else (!(a3==a4))) then true else false) then (some false) else ((ck (a2+1)).bind fun aC =>
  k5 aC)) else ((Hg a0.1 (0:Int) (if ((a1.1.length:Nat):Int)<((a0.1.length:Nat):Int) then ((a1.1.length:Nat):Int) else ((a0.1.length:Nat):Int))).bind fun a9 =>
  (Hg a1.1 (0:Int) (if ((a1.1.length:Nat):Int)<((a0.1.length:Nat):Int) then ((a1.1.length:Nat):Int) else ((a0.1.length:Nat):Int))).bind fun aA =>
  (Fa F a9 aA).bind fun a8 =>
  (gd ((a8==true&&((bif (bif (a0.2 != 0) then true else (a1.2 != 0)) then true else (!(a3==a4)))==false&&true))) (Fa F a0.1 a1.1) default).bind fun aE =>
  bif (bif (bif (bif (a0.2 != 0) then true else (a1.2 != 0)) then true else (!(a3==a4))) then true else (bif a8 then (!aE) else false)) then (some false) else ((ck (a2+1)).bind fun aD =>
  k5 aD))) else (E7 aB k3)
def Db (F:Nat) (a2:Int) (k3:(Int→Option Bool)) (a1:volume_Item) (a0:(List volume_Item)):Nat→Int→Option Bool
  | 0,_=>none
  | n+1,a3=>Gg F a2 k3 a1 a0 (Db F a2 k3 a1 a0 n) a3
def Gf (F:Nat) (y9:((List volume_Item)×Bool)) (k3:(Int→Option Bool)) (a0:Int):Option Bool :=
  bif (decide (a0<((y9.1.length:Nat):Int))) then ((E0 y9.1 a0).bind fun a2 =>
  (Hg y9.1 (0:Int) a0).bind fun a1 =>
  Db F a0 k3 a2 a1 F 0) else (Gh F)
def E8 (F:Nat) (y9:((List volume_Item)×Bool)):Nat→Int→Option Bool
  | 0,_=>none
  | n+1,a0=>Gf F y9 (E8 F y9 n) a0
def E6 (F:Nat) (y9:((List volume_Item)×Bool)):Option Bool :=
  E8 F y9 F 0
def Gp (F:Nat) (p0:(List law12_Thing)) (p1:(List Int)):Option Bool :=
  (Li F p0).bind fun y9 =>
  bif (bif (!y9.2) then true else (decide (((p1.length:Nat):Int)>500))) then ((L0 F).bind fun a6 =>
  some a6) else ((F9 F y9.1).bind fun a0 =>
  (D2 F a0.1).bind fun a1 =>
  (gd (((bif (bif (a0.2 != 0) then true else (a1.2.2 != 0)) then true else (a1.2.1 != ((a0.1.length:Nat):Int)))==false&&true)) (Ky F a1.1 y9.1) default).bind fun a7 =>
  bif (bif (bif (bif (a0.2 != 0) then true else (a1.2.2 != 0)) then true else (a1.2.1 != ((a0.1.length:Nat):Int))) then true else (!a7)) then (some false) else ((apd 1 ([82,86,70,49]) p1).bind fun a2 =>
  (D2 F a2).bind fun a4 =>
  bif (a4.2.2==0) then ((F9 F a4.1).bind fun a3 =>
  (gd (((a3.2 != 0)==false&&true)) (Fa F a3.1 a2) default).bind fun a5 =>
  bif (bif (bif (a3.2 != 0) then true else (!a5)) then true else (a4.2.1 != ((a2.length:Nat):Int))) then (some false) else (E6 F y9)) else (E6 F y9)))
end Go.Proofs.Ytifbomimeodibaa
