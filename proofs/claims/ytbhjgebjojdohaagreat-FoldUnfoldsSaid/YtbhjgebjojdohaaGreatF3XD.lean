import Derived.Test.YtbhjgebjojdohaaGreatF3EB
namespace Go.Proofs.YtbhjgebjojdohaaGreat
open Go Go.RowKit Go.Eng
set_option maxRecDepth 10000
set_option maxHeartbeats 4000000
set_option linter.unusedVariables false
set_option linter.unusedSimpArgs false
structure zR where
  Lambda:Int
  Kind:Int
  First:Int
  Second:Int
  Count:Int
  deriving Inhabited,DecidableEq
def zR.cells (x:zR):List Value:=[.int .i64 x.Lambda,.int .i64 x.Kind,.int .i64 x.First,.int .i64 x.Second,.int .i64 x.Count]
theorem zR.cells_len (x:zR):(zR.cells x).length=5:=rfl
structure zA where
  Lo:Int
  Hi:Int
  deriving Inhabited,DecidableEq
def zA.cells (x:zA):List Value:=[.int .i64 x.Lo,.int .i64 x.Hi]
theorem zA.cells_len (x:zA):(zA.cells x).length=2:=rfl
structure zE where
  Kind:Int
  Power:zA
  Steps:(zA×zA)
  Spread:Int
  Ratio:zA
  Match:zA
  Turn:zA
  deriving Inhabited,DecidableEq
def zE.cells (x:zE):List Value:=[.int .i64 x.Kind,.int .i64 x.Power.Lo,.int .i64 x.Power.Hi,.int .i64 x.Steps.1.Lo,.int .i64 x.Steps.1.Hi,.int .i64 x.Steps.2.Lo,.int .i64 x.Steps.2.Hi,.int .i64 x.Spread,.int .i64 x.Ratio.Lo,.int .i64 x.Ratio.Hi,.int .i64 x.Match.Lo,.int .i64 x.Match.Hi,.int .i64 x.Turn.Lo,.int .i64 x.Turn.Hi]
theorem zE.cells_len (x:zE):(zE.cells x).length=14:=rfl
structure zL where
  whole:Int
  speed:zA
  deriving Inhabited,DecidableEq
def zL.cells (x:zL):List Value:=[.int .i64 x.whole,.int .i64 x.speed.Lo,.int .i64 x.speed.Hi]
theorem zL.cells_len (x:zL):(zL.cells x).length=3:=rfl
structure zC where
  Whole:(Int×Int)
  Speed:zA
  deriving Inhabited,DecidableEq
def zC.cells (x:zC):List Value:=[.int .i64 x.Whole.1,.int .i64 x.Whole.2,.int .i64 x.Speed.Lo,.int .i64 x.Speed.Hi]
theorem zC.cells_len (x:zC):(zC.cells x).length=4:=rfl
structure zB where
  ray:Int
  gate:Int
  deriving Inhabited,DecidableEq
def zB.cells (x:zB):List Value:=[.int .i64 x.ray,.int .i64 x.gate]
theorem zB.cells_len (x:zB):(zB.cells x).length=2:=rfl
structure zJ where
  to:zB
  most:Int
  deriving Inhabited,DecidableEq
def zJ.cells (x:zJ):List Value:=[.int .i64 x.to.ray,.int .i64 x.to.gate,.int .i64 x.most]
theorem zJ.cells_len (x:zJ):(zJ.cells x).length=3:=rfl
structure zQ where
  sets:(List (List (List zA)))
  bonds:(List (zB×(List zJ)))
  deriving Inhabited,DecidableEq
structure zS where
  Name:ByteArray
  X:Int
  Y:Int
  Z:Int
  Rose:Int
  Gates:Int
  Step:Int
  Width:Int
  deriving Inhabited,DecidableEq
def zS.cells (x:zS):List Value:=[.string x.Name,.int .i64 x.X,.int .i64 x.Y,.int .i64 x.Z,.int .i64 x.Rose,.int .i64 x.Gates,.int .i64 x.Step,.int .i64 x.Width]
theorem zS.cells_len (x:zS):(zS.cells x).length=8:=rfl
structure zN where
  Site:zS
  Tilt:Int
  Time:Int
  Rays:(List (List zE))
  deriving Inhabited,DecidableEq
structure zK where
  State:Int
  Guesses:(List zC)
  deriving Inhabited,DecidableEq
structure zH where
  Lambda:Int
  Kind:Int
  First:Int
  Second:Int
  Count:Int
  deriving Inhabited,DecidableEq
def zH.cells (x:zH):List Value:=[.int .i64 x.Lambda,.int .i64 x.Kind,.int .i64 x.First,.int .i64 x.Second,.int .i64 x.Count]
theorem zH.cells_len (x:zH):(zH.cells x).length=5:=rfl
structure zD where
  Whole:(Int×Int)
  Speed:zA
  deriving Inhabited,DecidableEq
def zD.cells (x:zD):List Value:=[.int .i64 x.Whole.1,.int .i64 x.Whole.2,.int .i64 x.Speed.Lo,.int .i64 x.Speed.Hi]
theorem zD.cells_len (x:zD):(zD.cells x).length=4:=rfl
structure zT where
  Ray:Int
  Gate:Int
  deriving Inhabited,DecidableEq
def zT.cells (x:zT):List Value:=[.int .i64 x.Ray,.int .i64 x.Gate]
theorem zT.cells_len (x:zT):(zT.cells x).length=2:=rfl
structure zF where
  A:zT
  B:zT
  Most:Int
  deriving Inhabited,DecidableEq
def zF.cells (x:zF):List Value:=[.int .i64 x.A.Ray,.int .i64 x.A.Gate,.int .i64 x.B.Ray,.int .i64 x.B.Gate,.int .i64 x.Most]
theorem zF.cells_len (x:zF):(zF.cells x).length=5:=rfl
structure zG where
  State:Int
  Guesses:(List zD)
  deriving Inhabited,DecidableEq
abbrev zR.ar (x:zR):Array Value:=#[.int .i64 x.Lambda,.int .i64 x.Kind,.int .i64 x.First,.int .i64 x.Second,.int .i64 x.Count]
abbrev zR.ag (x:zR):Value:=.agg #[.int .i64 x.Lambda,.int .i64 x.Kind,.int .i64 x.First,.int .i64 x.Second,.int .i64 x.Count]
abbrev zE.ar (x:zE):Array Value:=#[.int .i64 x.Kind,.int .i64 x.Power.Lo,.int .i64 x.Power.Hi,.int .i64 x.Steps.1.Lo,.int .i64 x.Steps.1.Hi,.int .i64 x.Steps.2.Lo,.int .i64 x.Steps.2.Hi,.int .i64 x.Spread,.int .i64 x.Ratio.Lo,.int .i64 x.Ratio.Hi,.int .i64 x.Match.Lo,.int .i64 x.Match.Hi,.int .i64 x.Turn.Lo,.int .i64 x.Turn.Hi]
abbrev zE.ag (x:zE):Value:=.agg #[.int .i64 x.Kind,.int .i64 x.Power.Lo,.int .i64 x.Power.Hi,.int .i64 x.Steps.1.Lo,.int .i64 x.Steps.1.Hi,.int .i64 x.Steps.2.Lo,.int .i64 x.Steps.2.Hi,.int .i64 x.Spread,.int .i64 x.Ratio.Lo,.int .i64 x.Ratio.Hi,.int .i64 x.Match.Lo,.int .i64 x.Match.Hi,.int .i64 x.Turn.Lo,.int .i64 x.Turn.Hi]
abbrev zL.ar (x:zL):Array Value:=#[.int .i64 x.whole,.int .i64 x.speed.Lo,.int .i64 x.speed.Hi]
abbrev zL.ag (x:zL):Value:=.agg #[.int .i64 x.whole,.int .i64 x.speed.Lo,.int .i64 x.speed.Hi]
abbrev zC.ar (x:zC):Array Value:=#[.int .i64 x.Whole.1,.int .i64 x.Whole.2,.int .i64 x.Speed.Lo,.int .i64 x.Speed.Hi]
abbrev zC.ag (x:zC):Value:=.agg #[.int .i64 x.Whole.1,.int .i64 x.Whole.2,.int .i64 x.Speed.Lo,.int .i64 x.Speed.Hi]
abbrev zJ.ar (x:zJ):Array Value:=#[.int .i64 x.to.ray,.int .i64 x.to.gate,.int .i64 x.most]
abbrev zJ.ag (x:zJ):Value:=.agg #[.int .i64 x.to.ray,.int .i64 x.to.gate,.int .i64 x.most]
abbrev zS.ar (x:zS):Array Value:=#[.string x.Name,.int .i64 x.X,.int .i64 x.Y,.int .i64 x.Z,.int .i64 x.Rose,.int .i64 x.Gates,.int .i64 x.Step,.int .i64 x.Width]
abbrev zS.ag (x:zS):Value:=.agg #[.string x.Name,.int .i64 x.X,.int .i64 x.Y,.int .i64 x.Z,.int .i64 x.Rose,.int .i64 x.Gates,.int .i64 x.Step,.int .i64 x.Width]
abbrev zH.ar (x:zH):Array Value:=#[.int .i64 x.Lambda,.int .i64 x.Kind,.int .i64 x.First,.int .i64 x.Second,.int .i64 x.Count]
abbrev zH.ag (x:zH):Value:=.agg #[.int .i64 x.Lambda,.int .i64 x.Kind,.int .i64 x.First,.int .i64 x.Second,.int .i64 x.Count]
abbrev zF.ar (x:zF):Array Value:=#[.int .i64 x.A.Ray,.int .i64 x.A.Gate,.int .i64 x.B.Ray,.int .i64 x.B.Gate,.int .i64 x.Most]
abbrev zF.ag (x:zF):Value:=.agg #[.int .i64 x.A.Ray,.int .i64 x.A.Gate,.int .i64 x.B.Ray,.int .i64 x.B.Gate,.int .i64 x.Most]
abbrev zN.ax (x:zN) (adg1_:Option Addr) (capg2_:Nat):Array Value:=#[.string x.Site.Name,.int .i64 x.Site.X,.int .i64 x.Site.Y,.int .i64 x.Site.Z,.int .i64 x.Site.Rose,.int .i64 x.Site.Gates,.int .i64 x.Site.Step,.int .i64 x.Site.Width,.int .i64 x.Tilt,.int .i64 x.Time,.slice adg1_ x.Rays.length capg2_]
abbrev zR.e0 (x:zR):Bool:=(((x.Lambda:Int)==0)&&(((x.Kind:Int)==0)&&(((x.First:Int)==0)&&(((x.Second:Int)==0)&&(((x.Count:Int)==0)&&true)))))
abbrev zE.e0 (x:zE):Bool:=(((x.Kind:Int)==0)&&(((x.Power.Lo:Int)==0)&&(((x.Power.Hi:Int)==0)&&(((x.Steps.1.Lo:Int)==0)&&(((x.Steps.1.Hi:Int)==0)&&(((x.Steps.2.Lo:Int)==0)&&(((x.Steps.2.Hi:Int)==0)&&(((x.Spread:Int)==0)&&(((x.Ratio.Lo:Int)==0)&&(((x.Ratio.Hi:Int)==0)&&(((x.Match.Lo:Int)==0)&&(((x.Match.Hi:Int)==0)&&(((x.Turn.Lo:Int)==0)&&(((x.Turn.Hi:Int)==0)&&true))))))))))))))
abbrev zL.e0 (x:zL):Bool:=(((x.whole:Int)==0)&&(((x.speed.Lo:Int)==0)&&(((x.speed.Hi:Int)==0)&&true)))
abbrev zC.e0 (x:zC):Bool:=(((x.Whole.1:Int)==0)&&(((x.Whole.2:Int)==0)&&(((x.Speed.Lo:Int)==0)&&(((x.Speed.Hi:Int)==0)&&true))))
abbrev zJ.e0 (x:zJ):Bool:=(((x.to.ray:Int)==0)&&(((x.to.gate:Int)==0)&&(((x.most:Int)==0)&&true)))
abbrev zS.e0 (x:zS):Bool:=((x.Name==ByteArray.empty)&&(((x.X:Int)==0)&&(((x.Y:Int)==0)&&(((x.Z:Int)==0)&&(((x.Rose:Int)==0)&&(((x.Gates:Int)==0)&&(((x.Step:Int)==0)&&(((x.Width:Int)==0)&&true))))))))
abbrev zH.e0 (x:zH):Bool:=(((x.Lambda:Int)==0)&&(((x.Kind:Int)==0)&&(((x.First:Int)==0)&&(((x.Second:Int)==0)&&(((x.Count:Int)==0)&&true)))))
abbrev zD.e0 (x:zD):Bool:=(((x.Whole.1:Int)==0)&&(((x.Whole.2:Int)==0)&&(((x.Speed.Lo:Int)==0)&&(((x.Speed.Hi:Int)==0)&&true))))
abbrev zF.e0 (x:zF):Bool:=(((x.A.Ray:Int)==0)&&(((x.A.Gate:Int)==0)&&(((x.B.Ray:Int)==0)&&(((x.B.Gate:Int)==0)&&(((x.Most:Int)==0)&&true)))))
abbrev z55:Array Value:=#[.int .i64 0,.int .i64 0,.int .i64 0,.int .i64 0,.int .i64 0,.int .i64 0,.int .i64 0,.int .i64 0,.int .i64 0,.int .i64 0,.int .i64 0,.int .i64 0,.int .i64 0,.int .i64 0]
abbrev z25:Array Value:=#[.string ByteArray.empty,.int .i64 0,.int .i64 0,.int .i64 0,.int .i64 0,.int .i64 0,.int .i64 0,.int .i64 0]
abbrev z35:Array Value:=#[.int .i64 0,.int .i64 0,.int .i64 0,.int .i64 0,.int .i64 0]
abbrev z60:Array Value:=#[.int .i64 0,.int .i64 0,.int .i64 0,.int .i64 0]
def Rp89:Rel (List zA):=fun μ cs x=>∃(ad1:Option Addr) (cap2:Nat),cs=[.slice ad1 x.length cap2]∧ArrM μ 2 zA.cells ad1 cap2 x
theorem Rp89.mono:Rel.Mono Rp89:=by
  intro μ ν cs x hle h;obtain ⟨ad1,cap2,rfl,f0⟩:=h;exact ⟨ad1,cap2,rfl,f0.mono hle⟩
theorem Rp89.one:Rel.One 1 Rp89:=by
  intro μ cs x h;obtain ⟨ad1,cap2,rfl,f0⟩:=h
  all_goals rfl
def Rp85:Rel (List (List zA)):=fun μ cs x=>∃(ad1:Option Addr) (cap2:Nat) (css3:List (List Value)),cs=[.slice ad1 x.length cap2]∧ArrQ μ 1 Rp89 ad1 cap2 css3 x
theorem Rp85.mono:Rel.Mono Rp85:=by
  intro μ ν cs x hle h;obtain ⟨ad1,cap2,css3,rfl,f0⟩:=h;exact ⟨ad1,cap2,css3,rfl,f0.mono Rp89.mono hle⟩
def Rp30:Rel (List zE):=fun μ cs x=>∃(ad1:Option Addr) (cap2:Nat),cs=[.slice ad1 x.length cap2]∧ArrM μ 14 zE.cells ad1 cap2 x
theorem Rp30.mono:Rel.Mono Rp30:=by
  intro μ ν cs x hle h;obtain ⟨ad1,cap2,rfl,f0⟩:=h;exact ⟨ad1,cap2,rfl,f0.mono hle⟩
def Rp41:Rel (List zC):=fun μ cs x=>∃(ad1:Option Addr) (cap2:Nat),cs=[.slice ad1 x.length cap2]∧ArrM μ 4 zC.cells ad1 cap2 x
theorem Rp41.mono:Rel.Mono Rp41:=by
  intro μ ν cs x hle h;obtain ⟨ad1,cap2,rfl,f0⟩:=h;exact ⟨ad1,cap2,rfl,f0.mono hle⟩
def Rp43:Rel zK:=fun μ cs x=>∃(ad1:Option Addr) (cap2:Nat),cs=[.int .i64 x.State,.slice ad1 x.Guesses.length cap2]∧ArrM μ 4 zC.cells ad1 cap2 x.Guesses
theorem Rp43.mono:Rel.Mono Rp43:=by
  intro μ ν cs x hle h;obtain ⟨ad1,cap2,rfl,f0⟩:=h;exact ⟨ad1,cap2,rfl,f0.mono hle⟩
theorem Rp43.one:Rel.One 2 Rp43:=by
  intro μ cs x h;obtain ⟨ad1,cap2,rfl,f0⟩:=h
  all_goals rfl
def Rp39:Rel (List zK):=fun μ cs x=>∃(ad1:Option Addr) (cap2:Nat) (css3:List (List Value)),cs=[.slice ad1 x.length cap2]∧ArrQ μ 2 Rp43 ad1 cap2 css3 x
theorem Rp39.mono:Rel.Mono Rp39:=by
  intro μ ν cs x hle h;obtain ⟨ad1,cap2,css3,rfl,f0⟩:=h;exact ⟨ad1,cap2,css3,rfl,f0.mono Rp43.mono hle⟩
def Rp61:Rel (List zA):=fun μ cs x=>∃(ad1:Option Addr) (cap2:Nat),cs=[.slice ad1 x.length cap2]∧ArrM μ 2 zA.cells ad1 cap2 x
theorem Rp61.mono:Rel.Mono Rp61:=by
  intro μ ν cs x hle h;obtain ⟨ad1,cap2,rfl,f0⟩:=h;exact ⟨ad1,cap2,rfl,f0.mono hle⟩
theorem Rp61.one:Rel.One 1 Rp61:=by
  intro μ cs x h;obtain ⟨ad1,cap2,rfl,f0⟩:=h
  all_goals rfl
def Rp64:Rel (List (List zA)):=fun μ cs x=>∃(ad1:Option Addr) (cap2:Nat) (css3:List (List Value)),cs=[.slice ad1 x.length cap2]∧ArrQ μ 1 Rp61 ad1 cap2 css3 x
theorem Rp64.mono:Rel.Mono Rp64:=by
  intro μ ν cs x hle h;obtain ⟨ad1,cap2,css3,rfl,f0⟩:=h;exact ⟨ad1,cap2,css3,rfl,f0.mono Rp61.mono hle⟩
theorem Rp64.one:Rel.One 1 Rp64:=by
  intro μ cs x h;obtain ⟨ad1,cap2,css3,rfl,f0⟩:=h
  all_goals rfl
def Rp44:Rel (List zD):=fun μ cs x=>∃(ad1:Option Addr) (cap2:Nat),cs=[.slice ad1 x.length cap2]∧ArrM μ 4 zD.cells ad1 cap2 x
theorem Rp44.mono:Rel.Mono Rp44:=by
  intro μ ν cs x hle h;obtain ⟨ad1,cap2,rfl,f0⟩:=h;exact ⟨ad1,cap2,rfl,f0.mono hle⟩
theorem Rp44.one:Rel.One 1 Rp44:=by
  intro μ cs x h;obtain ⟨ad1,cap2,rfl,f0⟩:=h
  all_goals rfl
def Rp95:Rel (List (List zD)):=fun μ cs x=>∃(ad1:Option Addr) (cap2:Nat) (css3:List (List Value)),cs=[.slice ad1 x.length cap2]∧ArrQ μ 1 Rp44 ad1 cap2 css3 x
theorem Rp95.mono:Rel.Mono Rp95:=by
  intro μ ν cs x hle h;obtain ⟨ad1,cap2,css3,rfl,f0⟩:=h;exact ⟨ad1,cap2,css3,rfl,f0.mono Rp44.mono hle⟩
theorem Rp95.one:Rel.One 1 Rp95:=by
  intro μ cs x h;obtain ⟨ad1,cap2,css3,rfl,f0⟩:=h
  all_goals rfl
def Rp46:Rel zG:=fun μ cs x=>∃(ad1:Option Addr) (cap2:Nat),cs=[.int .i64 x.State,.slice ad1 x.Guesses.length cap2]∧ArrM μ 4 zD.cells ad1 cap2 x.Guesses
theorem Rp46.mono:Rel.Mono Rp46:=by
  intro μ ν cs x hle h;obtain ⟨ad1,cap2,rfl,f0⟩:=h;exact ⟨ad1,cap2,rfl,f0.mono hle⟩
theorem Rp46.one:Rel.One 2 Rp46:=by
  intro μ cs x h;obtain ⟨ad1,cap2,rfl,f0⟩:=h
  all_goals rfl
def Rp40:Rel (List zG):=fun μ cs x=>∃(ad1:Option Addr) (cap2:Nat) (css3:List (List Value)),cs=[.slice ad1 x.length cap2]∧ArrQ μ 2 Rp46 ad1 cap2 css3 x
theorem Rp40.mono:Rel.Mono Rp40:=by
  intro μ ν cs x hle h;obtain ⟨ad1,cap2,css3,rfl,f0⟩:=h;exact ⟨ad1,cap2,css3,rfl,f0.mono Rp46.mono hle⟩
theorem Rp40.one:Rel.One 1 Rp40:=by
  intro μ cs x h;obtain ⟨ad1,cap2,css3,rfl,f0⟩:=h
  all_goals rfl
def K6:Bool:=true
def spB (s:zA):Prop:=-4000000000000000000≤s.Lo∧s.Lo≤4000000000000000000
instance (s:zA):Decidable (spB s):=by unfold spB;infer_instance
instance:Inhabited {s:zA // spB s}:=⟨⟨⟨0,0⟩,by decide⟩⟩
def Ml (x y:{s:zA // spB s}):Int:=x.val.Lo-y.val.Lo
def Gi (F:Nat) (p0:List zA):Option (List zA) :=
  if h:(∀s∈p0,spB s)∧p0.length<4611686018427387904 then some ((Ua Ml (p0.pmap Subtype.mk h.1)).map Subtype.val) else none
def Gt (p0:ByteArray):Bool:=A9p p0
def Ac (p0:Int) (p1:Int) (p2:Int):Bool :=
  bif (decide (p1≤p0)) then (decide (p0≤p2)) else false
def Fo (p0:zR) (x3:Int) (c5:Bool):Option Int :=
  bif (bif (bif (bif (!c5) then true else (!(Ac p0.Lambda 10000 1000000))) then true else (!(Ac p0.First 200 5000))) then true else (!(Ac p0.Count x3 64))) then (some 3) else (some 0)
def E6 (p0:zR) (x3:Int) (c4:Bool):Option Int :=
  bif (p0.Kind != 1) then (Fo p0 x3 (bif (bif c4 then (Ac p0.Second 200 5000) else false) then (decide (p0.First<p0.Second)) else false)) else (Fo p0 x3 c4)
def Fy (F:Nat) (p0:zR):Option Int :=
  bif (p0.Kind==1) then (E6 p0 2 (p0.Second==0)) else (bif (p0.Kind==2) then ((V4 p0.Count 2).bind fun x8 =>
  E6 p0 4 (x8==0)) else (bif (p0.Kind==3) then (E6 p0 3 true) else (some 2)))
def Mn (p0:Int):Bool :=
  bif (decide (p0≥1)) then (decide (p0≤200000)) else false
def A3 (p0:zA) (p1:zA):(zA×Bool) :=
  ((zA.mk (if p1.Lo>p0.Lo then p1.Lo else p0.Lo) (if p1.Hi<p0.Hi then p1.Hi else p0.Hi)),decide ((if p1.Lo>p0.Lo then p1.Lo else p0.Lo)≤(if p1.Hi<p0.Hi then p1.Hi else p0.Hi)))
def Ae (p0:zA) (p1:Int) (p2:Int):Bool :=
  bif (bif (decide (p1≤p0.Lo)) then (decide (p0.Lo≤p0.Hi)) else false) then (decide (p0.Hi≤p2)) else false
def Hr (F:Nat) (p0:zR) (p1:Int):Option (Int×Int) :=
  (Fy F p0).bind fun y2 =>
  bif (y2 != 0) then (some (0,y2)) else (bif (!(Ac p1 0 1)) then (bif (bif (!(Ac p1 0 1)) then true else (0==0)) then (some (0,2)) else (bif (p1==0) then (some (p0.First,0)) else (bif (p1==1) then (some (p0.Second,0)) else (none)))) else (bif (p1==0) then (bif (bif (!(Ac p1 0 1)) then true else (p0.First==0)) then (some (0,2)) else (some (p0.First,0))) else (bif (p1==1) then (bif (bif (!(Ac p1 0 1)) then true else (p0.Second==0)) then (some (0,2)) else (some (p0.Second,0))) else (none))))
def Mu (F:Nat) (p0:Int) (p1:Int):Option Int :=
  (A4i p0 p1).bind fun x1 =>
  (ck (x1*p1)).bind fun x2 =>
  bif (decide (x2>p0)) then ((ck (x1-1)).bind fun x3 =>
  some x3) else (some x1)
def Ri (F:Nat) (p0:Int) (p1:Int):Option Int :=
  (Mu F (IntKind.i64.wrap (0-p0)) p1).bind fun y1 =>
  some (IntKind.i64.wrap (0-y1))
def He (F:Nat) (p0:Int) (c0_:zR) (c1_:Int) (c2_:Int):Option Int :=
  (ck (500*c0_.Lambda)).bind fun x1 =>
  (ck (c1_*65536)).bind fun x2 =>
  (ck (p0+x2)).bind fun x3 =>
  (ck (x1*x3)).bind fun x4 =>
  (ck (65536*c2_)).bind fun x5 =>
  (Mu F x4 x5).bind fun y6 =>
  some y6
def Hf (F:Nat) (p0:Int) (c0_:zR) (c1_:Int) (c2_:Int):Option Int :=
  (ck (500*c0_.Lambda)).bind fun x1 =>
  (ck (c1_*65536)).bind fun x2 =>
  (ck (p0+x2)).bind fun x3 =>
  (ck (x1*x3)).bind fun x4 =>
  (ck (65536*c2_)).bind fun x5 =>
  (Ri F x4 x5).bind fun y6 =>
  some y6
def Lw (F:Nat) (p0:zR) (p1:Int) (p2:zA) (p3:Int):Option (zA×Int) :=
  (Hr F p0 p1).bind fun y5 =>
  bif (y5.2 != 0) then (some ((zA.mk 0 0),y5.2)) else (bif (bif (!(Ae p2 (-131072) 131072)) then true else (!(Ac p3 (-64) 64))) then (some ((zA.mk 0 0),3)) else ((He F p2.Lo p0 p3 y5.1).bind fun y8 =>
  (Hf F p2.Hi p0 p3 y5.1).bind fun a0 =>
  some ((zA.mk y8 a0),0)))
def D3 {σ:Type} (F:Nat) (body:σ→zL→Option (σ×Bool)) (c0_:zR) (c1_:Int) (c2_:zE) (c3_:Int) (k1:Int→σ→Option (σ×Bool)) (a0:Int) (a3:σ):Option (σ×Bool) :=
  bif (decide (a0≤64)) then (bif (c1_==0) then ((Lw F c0_ c1_ (zA.mk c2_.Steps.1.Lo c2_.Steps.1.Hi) a0).bind fun a1 =>
  bif ((A3 (zA.mk a1.1.Lo a1.1.Hi) (zA.mk (IntKind.i64.wrap (0-c3_)) c3_)).2) then ((body a3 (zL.mk a0 (zA.mk (((A3 (zA.mk a1.1.Lo a1.1.Hi) (zA.mk (IntKind.i64.wrap (0-c3_)) c3_)).1).Lo) (((A3 (zA.mk a1.1.Lo a1.1.Hi) (zA.mk (IntKind.i64.wrap (0-c3_)) c3_)).1).Hi)))).bind fun a4 =>
  bif a4.2 then ((ck (a0+1)).bind fun a6 =>
  k1 a6 a4.1) else (some (a4.1,false))) else ((ck (a0+1)).bind fun a7 =>
  k1 a7 a3)) else (bif (c1_==1) then ((Lw F c0_ c1_ (zA.mk c2_.Steps.2.Lo c2_.Steps.2.Hi) a0).bind fun a2 =>
  bif ((A3 (zA.mk a2.1.Lo a2.1.Hi) (zA.mk (IntKind.i64.wrap (0-c3_)) c3_)).2) then ((body a3 (zL.mk a0 (zA.mk (((A3 (zA.mk a2.1.Lo a2.1.Hi) (zA.mk (IntKind.i64.wrap (0-c3_)) c3_)).1).Lo) (((A3 (zA.mk a2.1.Lo a2.1.Hi) (zA.mk (IntKind.i64.wrap (0-c3_)) c3_)).1).Hi)))).bind fun a5 =>
  bif a5.2 then ((ck (a0+1)).bind fun a8 =>
  k1 a8 a5.1) else (some (a5.1,false))) else ((ck (a0+1)).bind fun a9 =>
  k1 a9 a3)) else (none))) else (some (a3,true))
def Dt {σ:Type} (F:Nat) (body:σ→zL→Option (σ×Bool)) (c0_:zR) (c1_:Int) (c2_:zE) (c3_:Int):Nat→Int→σ→Option (σ×Bool)
  | 0,_,_=>none
  | n+1,a1,a0=>D3 F body c0_ c1_ c2_ c3_ (Dt F body c0_ c1_ c2_ c3_ n) a1 a0
def Ma {σ:Type} (F:Nat) (c0_:zR) (c1_:Int) (c2_:zE) (c3_:Int) (body:σ→zL→Option (σ×Bool)) (s_:σ):Option (σ×Bool) :=
  Dt F body c0_ c1_ c2_ c3_ F (-64) s_
def To (p0:zR) (p1:zE) (p2:Int) (p3:Int):Unit :=
  ()
def Ep (s_r:(List zL)×Nat) (x_:zL):Option (((List zL)×Nat)×Bool) :=
  (apd 24 s_r.1 ([x_])).bind fun a0 =>
  some ((a0,0),true)
def Qj (tg_:Nat):Code:=.ret
def Nv (F:Nat) (p0:zR) (p1:zE) (p2:Int) (p3:Int):Option ((List zL)×Bool) :=
  (Ma F p0 p2 (zE.mk p1.Kind p1.Power ((zA.mk p1.Steps.1.Lo p1.Steps.1.Hi),(zA.mk p1.Steps.2.Lo p1.Steps.2.Hi)) p1.Spread p1.Ratio p1.Match p1.Turn) p3 (Ep) (([]:List zL),0)).bind fun a0 =>
  bif a0.2 then ((gd (((decide (((a0.1.1.length:Nat):Int)>0))==true&&true)) (Ak a0.1.1 0) default).bind fun a1 =>
  (gd (((a1.whole==(-64))==false&&((decide (((a0.1.1.length:Nat):Int)>0))==true&&true))) (ck (((a0.1.1.length:Nat):Int)-1)) 0).bind fun a3 =>
  (gd (((a1.whole==(-64))==false&&((decide (((a0.1.1.length:Nat):Int)>0))==true&&true))) (Ak a0.1.1 a3) default).bind fun a2 =>
  bif (bif (decide (((a0.1.1.length:Nat):Int)>0)) then (bif (a1.whole==(-64)) then true else (a2.whole==64)) else false) then (some (([]:(List zL)),false)) else (some (a0.1.1,true))) else (none)
def Lb (a1:(List zL)×Bool) (a0:List zC):Option ((List zC)×Bool) :=
  some (a0,a1.2)
def Jb (a1:Int) (k3:List zC→Int→Option ((List zC)×Bool)) (a0:List zC):Option ((List zC)×Bool) :=
  (ck (a1+1)).bind fun a2 =>
  k3 a0 a2
def Jc (a1:Int) (k5:List zC→Int→Option ((List zC)×Bool)) (a0:List zC):Option ((List zC)×Bool) :=
  (ck (a1+1)).bind fun a2 =>
  k5 a0 a2
def F7 (a4:(List zL)×Bool) (a6:Int) (k3:List zC→Int→Option ((List zC)×Bool)) (a0:zL) (k5:List zC→Int→Option ((List zC)×Bool)) (a3:List zC) (a2:Int):Option ((List zC)×Bool) :=
  bif (decide (a2<((a4.1.length:Nat):Int))) then ((Ak a4.1 a2).bind fun a1 =>
  bif ((A3 a0.speed a1.speed).2) then ((apd 32 a3 ([(zC.mk (a0.whole,a1.whole) (zA.mk (((A3 a0.speed a1.speed).1).Lo) (((A3 a0.speed a1.speed).1).Hi)))])).bind fun a5 =>
  Jc a2 k5 a5) else (Jc a2 k5 a3)) else (Jb a6 k3 a3)
def Dc (a2:(List zL)×Bool) (a1:Int) (k3:List zC→Int→Option ((List zC)×Bool)) (a0:zL):Nat→List zC→Int→Option ((List zC)×Bool)
  | 0,_,_=>none
  | n+1,a3,a4=>F7 a2 a1 k3 a0 (Dc a2 a1 k3 a0 n) a3 a4
def F6 (F:Nat) (y4:(List zL)×Bool) (a2:(List zL)×Bool) (k3:List zC→Int→Option ((List zC)×Bool)) (a1:List zC) (a0:Int):Option ((List zC)×Bool) :=
  bif (decide (a0<((y4.1.length:Nat):Int))) then ((Ak y4.1 a0).bind fun a3 =>
  Dc a2 a0 k3 a3 F a1 0) else (Lb a2 a1)
def Db (F:Nat) (y4:(List zL)×Bool) (a0:(List zL)×Bool):Nat→List zC→Int→Option ((List zC)×Bool)
  | 0,_,_=>none
  | n+1,a1,a2=>F6 F y4 a0 (Db F y4 a0 n) a1 a2
def Ja (F:Nat) (p0:zR) (p1:zE) (p2:Int) (y4:(List zL)×Bool):Option ((List zC)×Bool) :=
  (Nv F p0 (zE.mk p1.Kind p1.Power ((zA.mk p1.Steps.1.Lo p1.Steps.1.Hi),(zA.mk p1.Steps.2.Lo p1.Steps.2.Hi)) p1.Spread p1.Ratio p1.Match p1.Turn) 1 p2).bind fun a0 =>
  Db F y4 a0 F ([]) 0
def Lc (a0:List zC):Option ((List zC)×Bool) :=
  some (a0,true)
def F8 (y4:(List zL)×Bool) (k8:List zC→Int→Option ((List zC)×Bool)) (a1:List zC) (a0:Int):Option ((List zC)×Bool) :=
  bif (decide (a0<((y4.1.length:Nat):Int))) then ((Ak y4.1 a0).bind fun a2 =>
  (apd 32 a1 ([(zC.mk (a2.whole,0) a2.speed)])).bind fun a3 =>
  (ck (a0+1)).bind fun a4 =>
  k8 a3 a4) else (Lc a1)
def E7 (y4:(List zL)×Bool):Nat→List zC→Int→Option ((List zC)×Bool)
  | 0,_,_=>none
  | n+1,a0,a1=>F8 y4 (E7 y4 n) a0 a1
def Fp (F:Nat) (p0:zR) (p1:zE) (p2:Int):Option ((List zC)×Bool) :=
  (Nv F p0 (zE.mk p1.Kind p1.Power ((zA.mk p1.Steps.1.Lo p1.Steps.1.Hi),(zA.mk p1.Steps.2.Lo p1.Steps.2.Hi)) p1.Spread p1.Ratio p1.Match p1.Turn) 0 p2).bind fun y4 =>
  bif (!y4.2) then (some (([]:(List zC)),false)) else (bif (p0.Kind==1) then (E7 y4 F ([]) 0) else (Ja F p0 p1 p2 y4))
def Mv:Option Bool :=
  some true
def Dj (p0:List zA) (k2:Int→Option Bool) (a1:Int):Option Bool :=
  bif (decide (a1<((p0.length:Nat):Int))) then ((Ak p0 a1).bind fun a0 =>
  (gd (((!(Ac a0.Lo (-32768) 32767))==false&&true)) (ck (a0.Lo+65536)) 0).bind fun a2 =>
  (gd (((!(Ac a0.Lo (-32768) 32767))==false&&true)) (ck (a2-1)) 0).bind fun a3 =>
  bif (bif (!(Ac a0.Lo (-32768) 32767)) then true else (!(Ac a0.Hi a0.Lo a3))) then (some false) else ((ck (a1+1)).bind fun a4 =>
  k2 a4)) else (Mv)
def Ed (p0:List zA):Nat→Int→Option Bool
  | 0,_=>none
  | n+1,a0=>Dj p0 (Ed p0 n) a0
def N8 (F:Nat) (p0:List zA):Option Bool :=
  Ed p0 F 0
def Cc (c7:Bool):Option Int :=
  bif (!c7) then (some 3) else (some 0)
def Gc (F:Nat) (p0:zE) (c9:Bool):Option Int :=
  bif c9 then (bif (p0.Kind==2) then (Cc (bif (bif (bif (bif (bif (bif (Ae p0.Power 0 1073741824) then (decide (p0.Power.Lo>0)) else false) then (Ae p0.Ratio 0 1000000) else false) then (Ae p0.Match 0 1000) else false) then (Ac p0.Spread 0 65535) else false) then ((((p0.Steps.1.Lo:Int)==0)&&(((p0.Steps.1.Hi:Int)==0)&&true))&&((((p0.Steps.2.Lo:Int)==0)&&(((p0.Steps.2.Hi:Int)==0)&&true))&&true)) else false) then (((p0.Turn.Lo:Int)==0)&&(((p0.Turn.Hi:Int)==0)&&true)) else false)) else (bif (bif (bif (bif (bif (Ae p0.Power 0 1073741824) then (decide (p0.Power.Lo>0)) else false) then (Ae p0.Ratio 0 1000000) else false) then (Ae p0.Match 0 1000) else false) then (Ac p0.Spread 0 65535) else false) then ((N8 F ([(zA.mk p0.Steps.1.Lo p0.Steps.1.Hi),(zA.mk p0.Steps.2.Lo p0.Steps.2.Hi),p0.Turn])).bind fun a0 =>
  Cc a0) else (Cc false))) else (some 2)
def Je (F:Nat) (p0:zE):Option Int :=
  bif (p0.Kind==1) then (Cc (bif (Ae p0.Power 0 1073741824) then (((p0.Kind:Int)==1)&&((((p0.Power.Lo:Int)==0)&&(((p0.Power.Hi:Int)==p0.Power.Hi)&&true))&&(((((p0.Steps.1.Lo:Int)==0)&&(((p0.Steps.1.Hi:Int)==0)&&true))&&((((p0.Steps.2.Lo:Int)==0)&&(((p0.Steps.2.Hi:Int)==0)&&true))&&true))&&(((p0.Spread:Int)==0)&&((((p0.Ratio.Lo:Int)==0)&&(((p0.Ratio.Hi:Int)==0)&&true))&&((((p0.Match.Lo:Int)==0)&&(((p0.Match.Hi:Int)==0)&&true))&&((((p0.Turn.Lo:Int)==0)&&(((p0.Turn.Hi:Int)==0)&&true))&&true))))))) else false)) else (bif (p0.Kind==2) then (Gc F p0 (p0.Kind==2)) else (Gc F p0 (p0.Kind==3)))
def Be (F:Nat) (p0:List zA):Option (List zA) :=
  (apd 16 ([]:List zA) p0).bind fun l5 =>
  some l5
def Jr (a0:List zA):Option (List zA) :=
  some a0
def D4 (a1:Int) (k2:Int→List zA→Option (List zA)) (a0:List zA):Option (List zA) :=
  (ck (a1+1)).bind fun a2 =>
  k2 a2 a0
def Bc (y9:List zA) (k2:Int→List zA→Option (List zA)) (a2:Int) (a0:List zA):Option (List zA) :=
  bif (decide (a2<((y9.length:Nat):Int))) then ((Ak y9 a2).bind fun a1 =>
  (gd (((decide (((a0.length:Nat):Int)>0))==true&&true)) (ck (((a0.length:Nat):Int)-1)) 0).bind fun a9 =>
  (gd (((decide (((a0.length:Nat):Int)>0))==true&&true)) (Ak a0 a9) default).bind fun a7 =>
  bif (bif (decide (((a0.length:Nat):Int)>0)) then (decide (a1.Lo≤a7.Hi)) else false) then ((ck (((a0.length:Nat):Int)-1)).bind fun a4 =>
  (ck (((a0.length:Nat):Int)-1)).bind fun aA =>
  (Ak a0 aA).bind fun a3 =>
  (Ak a0 a4).bind fun a8 =>
  (Gk a0 a4 (zA.mk a8.Lo (if a1.Hi>a3.Hi then a1.Hi else a3.Hi))).bind fun a5 =>
  D4 a2 k2 a5) else ((apd 16 a0 ([a1])).bind fun a6 =>
  D4 a2 k2 a6)) else (Jr a0)
def Az (y9:List zA):Nat→Int→List zA→Option (List zA)
  | 0,_,_=>none
  | n+1,a1,a0=>Bc y9 (Az y9 n) a1 a0
def C6 (F:Nat) (p0:List zA):Option (List zA) :=
  (Be F p0).bind fun y5 =>
  (Gi F y5).bind fun y9 =>
  Az y9 F 0 ([])
def Fq (p0:Int) (p1:Int):Int :=
  bif (bif (bif (bif (decide (p0<0)) then true else (decide (p0>400000))) then true else (decide (p1<1))) then true else (decide (p1>16))) then (3) else (0)
def N6 (a0:List Int):Option (List Int) :=
  some a0
def Ky (a1:Int) (k2:List Int→Int→Option (List Int)) (a0:List Int):Option (List Int) :=
  (ck (a1+1)).bind fun a2 =>
  k2 a0 a2
def Gu (p0:List (List zA)) (k2:List Int→Int→Option (List Int)) (a1:List Int) (a0:Int):Option (List Int) :=
  bif (decide (a0<((p0.length:Nat):Int))) then ((Ak p0 a0).bind fun a3 =>
  bif (decide (((a3.length:Nat):Int)>0)) then ((apd 8 a1 ([a0])).bind fun a2 =>
  Ky a0 k2 a2) else (Ky a0 k2 a1)) else (N6 a1)
def Gv (p0:List (List zA)):Nat→List Int→Int→Option (List Int)
  | 0,_,_=>none
  | n+1,a0,a1=>Gu p0 (Gv p0 n) a0 a1
def Mo (F:Nat) (p0:List (List zA)):Option (List Int) :=
  Gv p0 F ([]) 0
def E3 (F:Nat) (a0:List zA):Option (List zA) :=
  (C6 F a0).bind fun a1 =>
  some a1
def E4 (p0:List zA) (p1:List zA) (a0:Int) (a1:Int) (k2:List zA→Int→Int→Option (List zA)) (a2:List zA):Option (List zA) :=
  (Ak p0 a0).bind fun a3 =>
  (Ak p1 a1).bind fun a4 =>
  bif (decide (a3.Hi<a4.Hi)) then ((ck (a0+1)).bind fun a5 =>
  k2 a2 a5 a1) else ((ck (a1+1)).bind fun a6 =>
  k2 a2 a0 a6)
def Cm (F:Nat) (p0:List zA) (p1:List zA) (k2:List zA→Int→Int→Option (List zA)) (a2:List zA) (a0:Int) (a1:Int):Option (List zA) :=
  bif (bif (decide (a0<((p0.length:Nat):Int))) then (decide (a1<((p1.length:Nat):Int))) else false) then ((Ak p0 a0).bind fun a3 =>
  (Ak p1 a1).bind fun a4 =>
  bif ((A3 a3 a4).2) then ((apd 16 a2 ([(zA.mk (((A3 a3 a4).1).Lo) (((A3 a3 a4).1).Hi))])).bind fun a5 =>
  E4 p0 p1 a0 a1 k2 a5) else (E4 p0 p1 a0 a1 k2 a2)) else (E3 F a2)
def C1 (F:Nat) (p0:List zA) (p1:List zA):Nat→List zA→Int→Int→Option (List zA)
  | 0,_,_,_=>none
  | n+1,a0,a1,a2=>Cm F p0 p1 (C1 F p0 p1 n) a0 a1 a2
def Fx (F:Nat) (p0:List zA) (p1:List zA):Option (List zA) :=
  C1 F p0 p1 F ([]) 0 0
def Fj (F:Nat) (a0:List zA):Option (List zA) :=
  (C6 F a0).bind fun a1 =>
  some a1
def Cn (F:Nat) (p0:List zA) (p1:Int) (k2:Int→List zA→Option (List zA)) (a0:Int) (a1:List zA):Option (List zA) :=
  bif (decide (a0<((p0.length:Nat):Int))) then ((Ak p0 a0).bind fun a2 =>
  (ck (a2.Lo-p1)).bind fun a4 =>
  (ck (a2.Hi+p1)).bind fun a5 =>
  (apd 16 a1 ([(zA.mk a4 a5)])).bind fun a3 =>
  (ck (a0+1)).bind fun a6 =>
  k2 a6 a3) else (Fj F a1)
def Co (F:Nat) (p0:List zA) (p1:Int):Nat→Int→List zA→Option (List zA)
  | 0,_,_=>none
  | n+1,a1,a0=>Cn F p0 p1 (Co F p0 p1 n) a1 a0
def Hm (F:Nat) (p0:List zA) (p1:Int):Option (List zA) :=
  Co F p0 p1 F 0 ([])
def Ea (F:Nat) (p0:List zA) (p1:List zA) (p2:Int):Option (List zA) :=
  (Hm F p1 p2).bind fun y8 =>
  (Fx F p0 y8).bind fun a0 =>
  some a0
def Dz (F:Nat) (p0:zQ) (p1:zB) (p2:zB) (p3:Int):Option zQ :=
  (apd 24 ((lkM p0.bonds p1).getD []) ([(zJ.mk p2 p3)])).bind fun a0 =>
  (apd 24 ((lkM (upM p0.bonds p1 a0) p2).getD []) ([(zJ.mk p1 p3)])).bind fun a1 =>
  some (zQ.mk p0.sets (upM (upM p0.bonds p1 a0) p2 a1))
def Ba (F:Nat) (p0:List (List zA)):Option (List (List zA)) :=
  (apd 24 ([]:List (List zA)) p0).bind fun l7 =>
  some l7
def Pu (a0:List (List (List zA))) (a1:List (zB×(List zJ))):Option zQ :=
  some (zQ.mk a0 a1)
def N7 (a2:Int) (k2:List (List (List zA))→List (zB×(List zJ))→Int→Option zQ) (a0:List (List (List zA))) (a1:List (zB×(List zJ))):Option zQ :=
  (ck (a2+1)).bind fun a3 =>
  k2 a0 a1 a3
def Fu (F:Nat) (a4:Int) (k2:List (List (List zA))→List (zB×(List zJ))→Int→Option zQ) (a3:List (List zA)) (a0:List (List (List zA))) (a1:List (zB×(List zJ))):Option zQ :=
  (Ba F a3).bind fun a5 =>
  (apd 24 a0 ([a5])).bind fun a2 =>
  N7 a4 k2 a2 a1
def Gz (a2:Int) (k5:List (List (List zA))→List (zB×(List zJ))→Int→Option zQ) (a0:List (List (List zA))) (a1:List (zB×(List zJ))):Option zQ :=
  (ck (a2+1)).bind fun a3 =>
  k5 a0 a1 a3
def Gy (F:Nat) (p0:List (List (List zA))) (p1:Int) (p2:Int) (a4:Int) (a5:Int) (k5:List (List (List zA))→List (zB×(List zJ))→Int→Option zQ) (a1:Int) (a2:List (List (List zA))) (a3:List (zB×(List zJ))) (k8:Int→Option zQ) (a0:Int):Option zQ :=
  (ck (((p0.length:Nat):Int)-1)).bind fun a6 =>
  bif (decide (a0≤(if a6<p2 then a6 else p2))) then ((ck (a4+a0)).bind fun aB =>
  (V4 aB ((p0.length:Nat):Int)).bind fun a7 =>
  (Ak p0 a7).bind fun a9 =>
  (Ak a9 a1).bind fun aA =>
  bif (decide (((aA.length:Nat):Int)>0)) then ((ck (p1*a0)).bind fun aC =>
  (Dz F (zQ.mk a2 a3) (zB.mk a4 a1) (zB.mk a7 a1) aC).bind fun a8 =>
  Gz a5 k5 a8.sets a8.bonds) else ((ck (a0+1)).bind fun aD =>
  k8 aD)) else (Gz a5 k5 a2 a3)
def Fv (F:Nat) (p0:List (List (List zA))) (p1:Int) (p2:Int) (a3:Int) (a4:Int) (k5:List (List (List zA))→List (zB×(List zJ))→Int→Option zQ) (a2:Int) (a0:List (List (List zA))) (a1:List (zB×(List zJ))):Nat→Int→Option zQ
  | 0,_=>none
  | n+1,a5=>Gy F p0 p1 p2 a3 a4 k5 a2 a0 a1 (Fv F p0 p1 p2 a3 a4 k5 a2 a0 a1 n) a5
def Jm (F:Nat) (p0:List (List (List zA))) (p1:Int) (p2:Int) (a3:Int) (a4:Int) (k5:List (List (List zA))→List (zB×(List zJ))→Int→Option zQ) (a2:Int) (a0:List (List (List zA))) (a1:List (zB×(List zJ))):Option zQ :=
  Fv F p0 p1 p2 a3 a4 k5 a2 a0 a1 F 1
def Gx (F:Nat) (p0:List (List (List zA))) (p1:Int) (p2:Int) (a2:Int) (k2:List (List (List zA))→List (zB×(List zJ))→Int→Option zQ) (a7:List (List zA)) (a3:List Int) (k5:List (List (List zA))→List (zB×(List zJ))→Int→Option zQ) (a4:List (List (List zA))) (a5:List (zB×(List zJ))) (a0:Int):Option zQ :=
  bif (decide (a0<((a3.length:Nat):Int))) then ((Ak a3 a0).bind fun a1 =>
  (gd (((decide (a0>0))==true&&true)) (ck (a0-1)) 0).bind fun aB =>
  (gd (((decide (a0>0))==true&&true)) (Ak a3 aB) default).bind fun a8 =>
  (gd (((decide (a0>0))==true&&true)) (ck (a1-a8)) 0).bind fun aC =>
  bif (bif (decide (a0>0)) then (decide (aC≤p2)) else false) then ((ck (a0-1)).bind fun aD =>
  (Ak a3 aD).bind fun a9 =>
  (ck (a0-1)).bind fun aE =>
  (Ak a3 aE).bind fun aA =>
  (ck (a1-aA)).bind fun aF =>
  (ck (p1*aF)).bind fun aG =>
  (Dz F (zQ.mk a4 a5) (zB.mk a2 a9) (zB.mk a2 a1) aG).bind fun a6 =>
  Jm F p0 p1 p2 a2 a0 k5 a1 a6.sets a6.bonds) else (Jm F p0 p1 p2 a2 a0 k5 a1 a4 a5)) else (Fu F a2 k2 a7 a4 a5)
def Dq (F:Nat) (p0:List (List (List zA))) (p1:Int) (p2:Int) (a1:Int) (k2:List (List (List zA))→List (zB×(List zJ))→Int→Option zQ) (a0:List (List zA)) (a2:List Int):Nat→List (List (List zA))→List (zB×(List zJ))→Int→Option zQ
  | 0,_,_,_=>none
  | n+1,a3,a4,a5=>Gx F p0 p1 p2 a1 k2 a0 a2 (Dq F p0 p1 p2 a1 k2 a0 a2 n) a3 a4 a5
def Gw (F:Nat) (p0:List (List (List zA))) (p1:Int) (p2:Int) (k2:List (List (List zA))→List (zB×(List zJ))→Int→Option zQ) (a1:List (List (List zA))) (a2:List (zB×(List zJ))) (a0:Int):Option zQ :=
  bif (decide (a0<((p0.length:Nat):Int))) then ((Ak p0 a0).bind fun a3 =>
  (Mo F a3).bind fun a4 =>
  Dq F p0 p1 p2 a0 k2 a3 a4 F a1 a2 0) else (Pu a1 a2)
def Er (F:Nat) (p0:List (List (List zA))) (p1:Int) (p2:Int):Nat→List (List (List zA))→List (zB×(List zJ))→Int→Option zQ
  | 0,_,_,_=>none
  | n+1,a0,a1,a2=>Gw F p0 p1 p2 (Er F p0 p1 p2 n) a0 a1 a2
def Qk (F:Nat) (p0:List (List (List zA))) (p1:Int) (p2:Int):Option zQ :=
  Er F p0 p1 p2 F ([]) ([]:List (zB×(List zJ))) 0
def Dp (F:Nat) (p0:zB) (c0_:List (zB×Bool)) (c1_:List zB):Option ((List (zB×Bool))×(List zB)) :=
  bif (!((lkM c0_ p0).getD false)) then ((apd 16 c1_ ([p0])).bind fun l6 =>
  some ((upM c0_ p0 true),l6)) else (some (c0_,c1_))
def D1:Option Bool :=
  some true
def Ar (p0:List zA) (p1:List zA) (k2:Int→Option Bool) (a0:Int):Option Bool :=
  bif (decide (a0<((p0.length:Nat):Int))) then ((Ak p0 a0).bind fun a1 =>
  (Ak p1 a0).bind fun a2 =>
  bif (!(((a1.Lo:Int)==a2.Lo)&&(((a1.Hi:Int)==a2.Hi)&&true))) then (some false) else ((ck (a0+1)).bind fun a3 =>
  k2 a3)) else (D1)
def As (p0:List zA) (p1:List zA):Nat→Int→Option Bool
  | 0,_=>none
  | n+1,a0=>Ar p0 p1 (As p0 p1 n) a0
def B6 (F:Nat) (p0:List zA) (p1:List zA):Option Bool :=
  bif (((p0.length:Nat):Int) != ((p1.length:Nat):Int)) then (some false) else (As p0 p1 F 0)
def Ny (a1:List zB) (a0:List (List (List zA))) (a2:List (zB×Bool)):Option (List (List (List zA))) :=
  some a0
def Ey (a3:Int) (k4:List zB→List (List (List zA))→List (zB×Bool)→Int→Option (List (List (List zA)))) (a0:List zB) (a1:List (List (List zA))) (a2:List (zB×Bool)):Option (List (List (List zA))) :=
  (ck (a3+1)).bind fun a4 =>
  k4 a0 a1 a2 a4
def Ex (F:Nat) (y5:zQ) (k3:List zB→List (List (List zA))→List (zB×Bool)→Option (List (List (List zA)))) (a2:zB) (k4:List zB→List (List (List zA))→List (zB×Bool)→Int→Option (List (List (List zA)))) (a4:List zB) (a1:List (List (List zA))) (a5:List (zB×Bool)) (a3:Int):Option (List (List (List zA))) :=
  bif (decide (a3<((((lkM y5.bonds a2).getD []).length:Nat):Int))) then ((Ak ((lkM y5.bonds a2).getD []) a3).bind fun a0 =>
  (Ak a1 a0.to.ray).bind fun aC =>
  (Ak aC a0.to.gate).bind fun a6 =>
  (Ak a1 a2.ray).bind fun aD =>
  (Ak aD a2.gate).bind fun aE =>
  (Ea F a6 aE a0.most).bind fun a8 =>
  (B6 F a6 a8).bind fun aF =>
  bif (!aF) then ((Ak a1 a0.to.ray).bind fun a7 =>
  (Ak a7 a0.to.gate).bind fun aG =>
  (Gk a7 a0.to.gate a8).bind fun aA =>
  (Gk a1 a0.to.ray aA).bind fun aB =>
  (Dp F a0.to a5 a4).bind fun a9 =>
  Ey a3 k4 a9.2 aB a9.1) else (Ey a3 k4 a4 a1 a5)) else (k3 a4 a1 a5)
def Bl (F:Nat) (y5:zQ) (k3:List zB→List (List (List zA))→List (zB×Bool)→Option (List (List (List zA)))) (a0:zB):Nat→List zB→List (List (List zA))→List (zB×Bool)→Int→Option (List (List (List zA)))
  | 0,_,_,_,_=>none
  | n+1,a1,a2,a3,a4=>Ex F y5 k3 a0 (Bl F y5 k3 a0 n) a1 a2 a3 a4
def Ew (F:Nat) (y5:zQ) (k3:List zB→List (List (List zA))→List (zB×Bool)→Option (List (List (List zA)))) (a0:List zB) (a1:List (List (List zA))) (a2:List (zB×Bool)):Option (List (List (List zA))) :=
  bif (decide (((a0.length:Nat):Int)>0)) then ((Ak a0 0).bind fun a3 =>
  (A1i a0 1 ((a0.length:Nat):Int)).bind fun a4 =>
  Bl F y5 k3 a3 F a4 a1 (Q1 a2 a3) 0) else (Ny a0 a1 a2)
def Du (F:Nat) (y5:zQ):Nat→List zB→List (List (List zA))→List (zB×Bool)→Option (List (List (List zA)))
  | 0,_,_,_=>none
  | n+1,a0,a1,a2=>Ew F y5 (Du F y5 n) a0 a1 a2
def K4 (F:Nat) (y5:zQ) (a0:List zB) (a1:List (zB×Bool)):Option (List (List (List zA))) :=
  Du F y5 F a0 y5.sets a1
def K5 (a2:Int) (k6:List zB→List (zB×Bool)→Int→Option (List (List (List zA)))) (a0:List zB) (a1:List (zB×Bool)):Option (List (List (List zA))) :=
  (ck (a2+1)).bind fun a3 =>
  k6 a0 a1 a3
def Ga (F:Nat) (a3:Int) (k6:List zB→List (zB×Bool)→Int→Option (List (List (List zA)))) (a4:List Int) (k8:List zB→List (zB×Bool)→Int→Option (List (List (List zA)))) (a1:List zB) (a2:List (zB×Bool)) (a0:Int):Option (List (List (List zA))) :=
  bif (decide (a0<((a4.length:Nat):Int))) then ((Ak a4 a0).bind fun a6 =>
  (Dp F (zB.mk a3 a6) a2 a1).bind fun a5 =>
  (ck (a0+1)).bind fun a7 =>
  k8 a5.2 a5.1 a7) else (K5 a3 k6 a1 a2)
def Dw (F:Nat) (a0:Int) (k6:List zB→List (zB×Bool)→Int→Option (List (List (List zA)))) (a1:List Int):Nat→List zB→List (zB×Bool)→Int→Option (List (List (List zA)))
  | 0,_,_,_=>none
  | n+1,a2,a3,a4=>Ga F a0 k6 a1 (Dw F a0 k6 a1 n) a2 a3 a4
def G9 (F:Nat) (p0:List (List (List zA))) (y5:zQ) (k6:List zB→List (zB×Bool)→Int→Option (List (List (List zA)))) (a1:List zB) (a2:List (zB×Bool)) (a0:Int):Option (List (List (List zA))) :=
  bif (decide (a0<((p0.length:Nat):Int))) then ((Ak p0 a0).bind fun a3 =>
  (Mo F a3).bind fun a4 =>
  Dw F a0 k6 a4 F a1 a2 0) else (K4 F y5 a1 a2)
def Dv (F:Nat) (p0:List (List (List zA))) (y5:zQ):Nat→List zB→List (zB×Bool)→Int→Option (List (List (List zA)))
  | 0,_,_,_=>none
  | n+1,a0,a1,a2=>G9 F p0 y5 (Dv F p0 y5 n) a0 a1 a2
def Lr (F:Nat) (p0:List (List (List zA))) (p1:Int) (p2:Int):Option (List (List (List zA))) :=
  (Qk F p0 p1 p2).bind fun y5 =>
  Dv F p0 y5 F ([]) ([]:List (zB×Bool)) 0
def Pz (F:Nat) (p0:ByteArray):Option Bool :=
  (gd (((bif (!(sEq p0 (⟨#[]⟩:ByteArray))) then (decide (((p0.size:Nat):Int)≤12)) else false)==true&&true)) (Se p0 (0:Int)) default).bind fun u1 =>
  (gd (((bif (bif (!(sEq p0 (⟨#[]⟩:ByteArray))) then (decide (((p0.size:Nat):Int)≤12)) else false) then (decide (u1≥97)) else false)==true&&true)) (Se p0 (0:Int)) default).bind fun u2 =>
  some (bif (bif (bif (bif (!(sEq p0 (⟨#[]⟩:ByteArray))) then (decide (((p0.size:Nat):Int)≤12)) else false) then (decide (u1≥97)) else false) then (decide (u2≤122)) else false) then (!(Gt p0)) else false)
def Af (p0:Int) (p1:Int) (p2:Int):Bool :=
  bif (decide (p1≤p0)) then (decide (p0≤p2)) else false
def C5 (c4:Bool):Option Int :=
  bif c4 then (some 3) else (some 0)
def D2 (p0:zS) (c3:Bool):Option Int :=
  bif c3 then (some 3) else (bif (!(Af p0.Rose 1 90)) then (C5 (!(Af p0.Rose 1 90))) else (bif (!(Af p0.Gates 1 200)) then (C5 (!(Af p0.Gates 1 200))) else (bif (!(Af p0.Step 50 2000)) then (C5 (!(Af p0.Step 50 2000))) else (C5 (!(Af p0.Width 0 8))))))
def D6 (F:Nat) (p0:zS):Option Int :=
  (Pz F p0.Name).bind fun y2 =>
  bif (!y2) then (some 10) else (bif (!(Af p0.X (-1048576) 1048576)) then (D2 p0 (!(Af p0.X (-1048576) 1048576))) else (bif (!(Af p0.Y (-1048576) 1048576)) then (D2 p0 (!(Af p0.Y (-1048576) 1048576))) else (D2 p0 (!(Af p0.Z 0 20000)))))
def Kq:Option Int :=
  some 0
def Hc (a0:Int) (k3:Int→Option Int):Option Int :=
  (ck (a0+1)).bind fun a1 =>
  k3 a1
def Cq (F:Nat) (a4:Int) (k3:Int→Option Int) (a2:List zE) (k5:Int→Option Int) (a1:Int):Option Int :=
  bif (decide (a1<((a2.length:Nat):Int))) then ((Ak a2 a1).bind fun a0 =>
  (Je F (zE.mk a0.Kind a0.Power ((zA.mk a0.Steps.1.Lo a0.Steps.1.Hi),(zA.mk a0.Steps.2.Lo a0.Steps.2.Hi)) a0.Spread a0.Ratio a0.Match a0.Turn)).bind fun a3 =>
  bif (a3 != 0) then (some a3) else ((ck (a1+1)).bind fun a5 =>
  k5 a5)) else (Hc a4 k3)
def Cs (F:Nat) (a1:Int) (k3:Int→Option Int) (a0:List zE):Nat→Int→Option Int
  | 0,_=>none
  | n+1,a2=>Cq F a1 k3 a0 (Cs F a1 k3 a0 n) a2
def Cp (F:Nat) (p0:zN) (k3:Int→Option Int) (a0:Int):Option Int :=
  bif (decide (a0<((p0.Rays.length:Nat):Int))) then ((Ak p0.Rays a0).bind fun a1 =>
  Cs F a0 k3 a1 F 0) else (Kq)
def C2 (F:Nat) (p0:zN):Nat→Int→Option Int
  | 0,_=>none
  | n+1,a0=>Cp F p0 (C2 F p0 n) a0
def Hb (F:Nat) (p0:zN):Option Int :=
  C2 F p0 F 0
def Cr (F:Nat) (p0:zN) (k6:Int→Option Int) (a0:Int):Option Int :=
  bif (decide (a0<((p0.Rays.length:Nat):Int))) then ((Ak p0.Rays a0).bind fun a1 =>
  bif (((a1.length:Nat):Int) != p0.Site.Gates) then (some 11) else ((ck (a0+1)).bind fun a2 =>
  k6 a2)) else (Hb F p0)
def Ct (F:Nat) (p0:zN):Nat→Int→Option Int
  | 0,_=>none
  | n+1,a0=>Cr F p0 (Ct F p0 n) a0
def Hq (F:Nat) (p0:zN):Option Int :=
  (D6 F p0.Site).bind fun y6 =>
  bif (y6 != 0) then (some y6) else (bif (bif (!(Ac p0.Tilt 0 256)) then true else (!(Ac p0.Time 0 4294967296))) then (some 3) else ((ck (4*p0.Site.Rose)).bind fun x7 =>
  bif (((p0.Rays.length:Nat):Int) != x7) then (some 11) else (Ct F p0 F 0)))
def M9 (a0:List zC):Option zK :=
  (Ak ([4,2,3]) (if ((a0.length:Nat):Int)<2 then ((a0.length:Nat):Int) else 2)).bind fun a1 =>
  some (zK.mk a1 a0)
def Kd (a1:Int) (k2:Int→List zC→Option zK) (a0:List zC):Option zK :=
  (ck (a1+1)).bind fun a2 =>
  k2 a2 a0
def J6 (F:Nat) (p0:List zC) (p1:List zA) (k2:Int→List zC→Option zK) (a0:Int) (a2:List zC):Option zK :=
  bif (decide (a0<((p0.length:Nat):Int))) then ((Ak p0 a0).bind fun a3 =>
  (Fx F p1 ([a3.Speed])).bind fun a1 =>
  bif (decide (((a1.length:Nat):Int)>0)) then ((Ak a1 0).bind fun a5 =>
  (ck (((a1.length:Nat):Int)-1)).bind fun a7 =>
  (Ak a1 a7).bind fun a6 =>
  (apd 32 a2 ([(zC.mk (a3.Whole.1,a3.Whole.2) (zA.mk a5.Lo a6.Hi))])).bind fun a4 =>
  Kd a0 k2 a4) else (Kd a0 k2 a2)) else (M9 a2)
def J7 (F:Nat) (p0:List zC) (p1:List zA):Nat→Int→List zC→Option zK
  | 0,_,_=>none
  | n+1,a1,a0=>J6 F p0 p1 (J7 F p0 p1 n) a1 a0
def S1 (F:Nat) (p0:List zC) (p1:List zA):Option zK :=
  J7 F p0 p1 F 0 ([])
def M6 (a0:List (List zK)):Option ((List (List zK))×Int) :=
  some (a0,0)
def M7 (a1:Int) (k3:Int→List (List zK)→Option ((List (List zK))×Int)) (a0:List (List zK)):Option ((List (List zK))×Int) :=
  (ck (a1+1)).bind fun a2 =>
  k3 a2 a0
def Hl (a1:Int) (a6:Int) (a0:List (List zK)) (k5:Int→List (List zK)→Option ((List (List zK))×Int)) (a7:Int) (a2:List zC):Option ((List (List zK))×Int) :=
  (Ak a0 a1).bind fun a5 =>
  (apd 32 a5 ([(zK.mk a7 a2)])).bind fun a3 =>
  (Ak a0 a1).bind fun a9 =>
  (Gk a0 a1 a3).bind fun a4 =>
  (ck (a6+1)).bind fun a8 =>
  k5 a8 a4
def G6 (F:Nat) (a5:List (List (List zC))) (aB:List (List (List zA))) (a1:Int) (k3:Int→List (List zK)→Option ((List (List zK))×Int)) (a3:List zE) (k5:Int→List (List zK)→Option ((List (List zK))×Int)) (a0:Int) (a2:List (List zK)):Option ((List (List zK))×Int) :=
  bif (decide (a0<((a3.length:Nat):Int))) then ((Ak a3 a0).bind fun a6 =>
  bif (a6.Kind==3) then ((Ak a5 a1).bind fun a7 =>
  (Ak a7 a0).bind fun a8 =>
  (Ak aB a1).bind fun a9 =>
  (Ak a9 a0).bind fun aA =>
  (S1 F a8 aA).bind fun a4 =>
  Hl a1 a0 a2 k5 a4.State a4.Guesses) else (Hl a1 a0 a2 k5 1 ([]))) else (M7 a1 k3 a2)
def Eu (F:Nat) (a0:List (List (List zC))) (a3:List (List (List zA))) (a2:Int) (k3:Int→List (List zK)→Option ((List (List zK))×Int)) (a1:List zE):Nat→Int→List (List zK)→Option ((List (List zK))×Int)
  | 0,_,_=>none
  | n+1,a5,a4=>G6 F a0 a3 a2 k3 a1 (Eu F a0 a3 a2 k3 a1 n) a5 a4
def G5 (F:Nat) (p1:zN) (a2:List (List (List zC))) (a4:List (List (List zA))) (k3:Int→List (List zK)→Option ((List (List zK))×Int)) (a0:Int) (a1:List (List zK)):Option ((List (List zK))×Int) :=
  bif (decide (a0<((p1.Rays.length:Nat):Int))) then ((Ak p1.Rays a0).bind fun a3 =>
  Eu F a2 a4 a0 k3 a3 F 0 a1) else (M6 a1)
def Et (F:Nat) (p1:zN) (a0:List (List (List zC))) (a1:List (List (List zA))):Nat→Int→List (List zK)→Option ((List (List zK))×Int)
  | 0,_,_=>none
  | n+1,a3,a2=>G5 F p1 a0 a1 (Et F p1 a0 a1 n) a3 a2
def K2 (F:Nat) (p1:zN) (p3:Int) (p4:Int) (a0:List (List (List zA))) (a1:List (List (List zC))):Option ((List (List zK))×Int) :=
  (Lr F a0 p3 p4).bind fun a3 =>
  (mkI 24 ((p1.Rays.length:Nat):Int) ([]:(List zK))).bind fun a2 =>
  Et F p1 a1 a3 F 0 a2
def M8 (a2:Int) (k7:List (List (List zA))→List (List (List zC))→Int→Option ((List (List zK))×Int)) (a0:List (List (List zA))) (a1:List (List (List zC))):Option ((List (List zK))×Int) :=
  (ck (a2+1)).bind fun a3 =>
  k7 a0 a1 a3
def Gl (a2:Int) (k9:List (List (List zA))→List (List (List zC))→Int→Option ((List (List zK))×Int)) (a0:List (List (List zA))) (a1:List (List (List zC))):Option ((List (List zK))×Int) :=
  (ck (a2+1)).bind fun a3 =>
  k9 a0 a1 a3
def J9 (F:Nat) (a3:Int) (a1:List (List (List zA))) (a0:Int) (k9:List (List (List zA))→List (List (List zC))→Int→Option ((List (List zK))×Int)) (a4:List (List (List zC))) (a5:List zA):Option ((List (List zK))×Int) :=
  (Ak a1 a3).bind fun a2 =>
  (C6 F a5).bind fun a8 =>
  (Ak a2 a0).bind fun a9 =>
  (Gk a2 a0 a8).bind fun a6 =>
  (Gk a1 a3 a6).bind fun a7 =>
  Gl a0 k9 a7 a4
def F4 (F:Nat) (a8:Int) (a4:List (List (List zA))) (a9:Int) (k9:List (List (List zA))→List (List (List zC))→Int→Option ((List (List zK))×Int)) (a2:(List zC)×Bool) (a5:List (List (List zC))) (a3:Int→List zA→Option ((List (List zK))×Int)) (a0:Int) (a1:List zA):Option ((List (List zK))×Int) :=
  bif (decide (a0<((a2.1.length:Nat):Int))) then ((Ak a2.1 a0).bind fun a7 =>
  (apd 16 a1 ([a7.Speed])).bind fun a6 =>
  (ck (a0+1)).bind fun aA =>
  a3 aA a6) else (J9 F a8 a4 a9 k9 a5 a1)
def F5 (F:Nat) (a2:Int) (a0:List (List (List zA))) (a3:Int) (k9:List (List (List zA))→List (List (List zC))→Int→Option ((List (List zK))×Int)) (a4:(List zC)×Bool) (a1:List (List (List zC))):Nat→Int→List zA→Option ((List (List zK))×Int)
  | 0,_,_=>none
  | n+1,a6,a5=>F4 F a2 a0 a3 k9 a4 a1 (F5 F a2 a0 a3 k9 a4 a1 n) a6 a5
def G8 (F:Nat) (p0:zR) (p2:Int) (a3:Int) (k7:List (List (List zA))→List (List (List zC))→Int→Option ((List (List zK))×Int)) (a6:List zE) (k9:List (List (List zA))→List (List (List zC))→Int→Option ((List (List zK))×Int)) (a4:List (List (List zA))) (a2:List (List (List zC))) (a1:Int):Option ((List (List zK))×Int) :=
  bif (decide (a1<((a6.length:Nat):Int))) then ((Ak a6 a1).bind fun a0 =>
  bif (a0.Kind != 3) then (Gl a1 k9 a4 a2) else ((Fp F p0 (zE.mk a0.Kind a0.Power ((zA.mk a0.Steps.1.Lo a0.Steps.1.Hi),(zA.mk a0.Steps.2.Lo a0.Steps.2.Hi)) a0.Spread a0.Ratio a0.Match a0.Turn) p2).bind fun a5 =>
  bif (!a5.2) then (some (([]:(List (List zK))),9)) else ((Ak a2 a3).bind fun a7 =>
  (Ak a7 a1).bind fun aA =>
  (Gk a7 a1 a5.1).bind fun a8 =>
  (Gk a2 a3 a8).bind fun a9 =>
  F5 F a3 a4 a1 k9 a5 a9 F 0 ([])))) else (M8 a3 k7 a4 a2)
def D9 (F:Nat) (p0:zR) (p2:Int) (a1:Int) (k7:List (List (List zA))→List (List (List zC))→Int→Option ((List (List zK))×Int)) (a0:List zE):Nat→List (List (List zA))→List (List (List zC))→Int→Option ((List (List zK))×Int)
  | 0,_,_,_=>none
  | n+1,a2,a3,a4=>G8 F p0 p2 a1 k7 a0 (D9 F p0 p2 a1 k7 a0 n) a2 a3 a4
def G7 (F:Nat) (p0:zR) (p1:zN) (p2:Int) (p3:Int) (p4:Int) (k7:List (List (List zA))→List (List (List zC))→Int→Option ((List (List zK))×Int)) (a1:List (List (List zA))) (a2:List (List (List zC))) (a0:Int):Option ((List (List zK))×Int) :=
  bif (decide (a0<((p1.Rays.length:Nat):Int))) then ((Ak p1.Rays a0).bind fun a3 =>
  (mkI 24 ((a3.length:Nat):Int) ([]:(List zA))).bind fun a4 =>
  (Ak a1 a0).bind fun a8 =>
  (mkI 24 ((a3.length:Nat):Int) ([]:(List zC))).bind fun a5 =>
  (Gk a1 a0 a4).bind fun a6 =>
  (Ak a2 a0).bind fun a9 =>
  (Gk a2 a0 a5).bind fun a7 =>
  D9 F p0 p2 a0 k7 a3 F a6 a7 0) else (K2 F p1 p3 p4 a1 a2)
def D8 (F:Nat) (p0:zR) (p1:zN) (p2:Int) (p3:Int) (p4:Int):Nat→List (List (List zA))→List (List (List zC))→Int→Option ((List (List zK))×Int)
  | 0,_,_,_=>none
  | n+1,a0,a1,a2=>G7 F p0 p1 p2 p3 p4 (D8 F p0 p1 p2 p3 p4 n) a0 a1 a2
def Ng (F:Nat) (p0:zR) (p1:zN) (p2:Int) (p3:Int) (p4:Int):Option ((List (List zK))×Int) :=
  (Fy F p0).bind fun y7 =>
  bif (y7 != 0) then (some (([]:(List (List zK))),y7)) else ((Hq F p1).bind fun y8 =>
  bif (y8 != 0) then (some (([]:(List (List zK))),y8)) else (bif (!(Mn p2)) then (some (([]:(List (List zK))),3)) else (bif ((Fq p3 p4) != 0) then (some (([]:(List (List zK))),(Fq p3 p4))) else ((mkI 24 ((p1.Rays.length:Nat):Int) ([]:(List (List zA)))).bind fun a0 =>
  (mkI 24 ((p1.Rays.length:Nat):Int) ([]:(List (List zC)))).bind fun a1 =>
  D8 F p0 p1 p2 p3 p4 F a0 a1 0))))
def Ag (p0:Int) (p1:Int) (p2:Int):Bool :=
  bif (decide (p0≥p1)) then (decide (p0≤p2)) else false
def D0 (p0:zH) (x3:Int):Option Int :=
  bif (bif (p0.Kind != 1) then (bif (!(Ag p0.Second 200 5000)) then true else (decide (p0.First≥p0.Second))) else false) then (some 3) else (bif (!(Ag p0.Count x3 64)) then (some 3) else (some 0))
def Ee (F:Nat) (p0:zH):Option Int :=
  bif (bif (bif (p0.Kind != 1) then (p0.Kind != 2) else false) then (p0.Kind != 3) else false) then (some 2) else (bif (bif (!(Ag p0.Lambda 10000 1000000)) then true else (!(Ag p0.First 200 5000))) then (some 3) else (bif (p0.Kind==1) then (bif (p0.Second != 0) then (some 3) else (D0 p0 2)) else (bif (p0.Kind==2) then ((V4 p0.Count 2).bind fun x5 =>
  bif (x5 != 0) then (some 3) else (D0 p0 4)) else (bif (p0.Kind==3) then (D0 p0 3) else (D0 p0 2)))))
def Na:Option Bool :=
  some true
def N9 (p0:ByteArray) (k2:Int→Option Bool) (a1:Int):Option Bool :=
  bif (decide (a1<((p0.size:Nat):Int))) then ((Se p0 a1).bind fun a0 =>
  bif (bif (bif (bif (decide (a0<97)) then true else (decide (a0>122))) then (bif (decide (a0<48)) then true else (decide (a0>57))) else false) then (a0 != 95) else false) then (some false) else ((ck (a1+1)).bind fun a2 =>
  k2 a2)) else (Na)
def Jo (p0:ByteArray):Nat→Int→Option Bool
  | 0,_=>none
  | n+1,a0=>N9 p0 (Jo p0 n) a0
def P6 (F:Nat) (p0:ByteArray):Option Bool :=
  (gd (((bif (decide (((p0.size:Nat):Int)<1)) then true else (decide (((p0.size:Nat):Int)>12)))==false&&true)) (Se p0 (0:Int)) default).bind fun u1 =>
  (gd (((bif (bif (decide (((p0.size:Nat):Int)<1)) then true else (decide (((p0.size:Nat):Int)>12))) then true else (decide (u1<97)))==false&&true)) (Se p0 (0:Int)) default).bind fun u2 =>
  bif (bif (bif (bif (decide (((p0.size:Nat):Int)<1)) then true else (decide (((p0.size:Nat):Int)>12))) then true else (decide (u1<97))) then true else (decide (u2>122))) then (some false) else (Jo p0 F 0)
def Jf (F:Nat) (p0:zS):Option Int :=
  (P6 F p0.Name).bind fun y2 =>
  bif (!y2) then (some 10) else (bif (bif (bif (bif (bif (bif (bif (!(Ag p0.X (-1048576) 1048576)) then true else (!(Ag p0.Y (-1048576) 1048576))) then true else (!(Ag p0.Z 0 20000))) then true else (!(Ag p0.Rose 1 90))) then true else (!(Ag p0.Gates 1 200))) then true else (!(Ag p0.Step 50 2000))) then true else (!(Ag p0.Width 0 8))) then (some 3) else (some 0))
def C3 (p0:zA) (p1:Int) (p2:Int):Bool :=
  bif (bif (decide (p0.Lo≤p0.Hi)) then (decide (p0.Lo≥p1)) else false) then (decide (p0.Hi≤p2)) else false
def K8 (F:Nat) (p0:zA):Option Bool :=
  (gd (((Ag p0.Lo (-32768) 32767)==true&&true)) (ck (p0.Lo+65536)) 0).bind fun x2 =>
  (gd (((Ag p0.Lo (-32768) 32767)==true&&true)) (ck (x2-1)) 0).bind fun x3 =>
  some (bif (Ag p0.Lo (-32768) 32767) then (Ag p0.Hi p0.Lo x3) else false)
def Gm (F:Nat) (p0:zE):Option Int :=
  bif (bif (bif (p0.Kind != 1) then (p0.Kind != 2) else false) then (p0.Kind != 3) else false) then (some 2) else (bif (!(C3 p0.Power 0 1073741824)) then (some 3) else (bif (p0.Kind==1) then (bif (bif (bif (bif (bif (bif (bif (p0.Power.Lo != 0) then true else (!(((p0.Steps.1.Lo:Int)==0)&&(((p0.Steps.1.Hi:Int)==0)&&true)))) then true else (!(((p0.Steps.2.Lo:Int)==0)&&(((p0.Steps.2.Hi:Int)==0)&&true)))) then true else (p0.Spread != 0)) then true else (!(((p0.Ratio.Lo:Int)==0)&&(((p0.Ratio.Hi:Int)==0)&&true)))) then true else (!(((p0.Match.Lo:Int)==0)&&(((p0.Match.Hi:Int)==0)&&true)))) then true else (!(((p0.Turn.Lo:Int)==0)&&(((p0.Turn.Hi:Int)==0)&&true)))) then (some 3) else (some 0)) else (bif (bif (bif (bif (decide (p0.Power.Lo<1)) then true else (!(C3 p0.Ratio 0 1000000))) then true else (!(C3 p0.Match 0 1000))) then true else (!(Ag p0.Spread 0 65535))) then (some 3) else (bif (p0.Kind==2) then (bif (bif (bif (!(((p0.Steps.1.Lo:Int)==0)&&(((p0.Steps.1.Hi:Int)==0)&&true))) then true else (!(((p0.Steps.2.Lo:Int)==0)&&(((p0.Steps.2.Hi:Int)==0)&&true)))) then true else (!(((p0.Turn.Lo:Int)==0)&&(((p0.Turn.Hi:Int)==0)&&true)))) then (some 3) else (some 0)) else ((K8 F (zA.mk p0.Steps.1.Lo p0.Steps.1.Hi)).bind fun y4 =>
  (gd (((!y4)==false&&true)) (K8 F (zA.mk p0.Steps.2.Lo p0.Steps.2.Hi)) default).bind fun y5 =>
  (gd (((bif (!y4) then true else (!y5))==false&&true)) (K8 F p0.Turn) default).bind fun y6 =>
  bif (bif (bif (!y4) then true else (!y5)) then true else (!y6)) then (some 3) else (some 0))))))
def Kr:Option Int :=
  some 0
def Hh (a0:Int) (k3:Int→Option Int):Option Int :=
  (ck (a0+1)).bind fun a1 =>
  k3 a1
def Cv (F:Nat) (p0:zN) (a1:Int) (k3:Int→Option Int) (k5:Int→Option Int) (a2:Int):Option Int :=
  (Ak p0.Rays a1).bind fun a4 =>
  bif (decide (a2<((a4.length:Nat):Int))) then ((Ak p0.Rays a1).bind fun a5 =>
  (Ak a5 a2).bind fun a0 =>
  (Gm F (zE.mk a0.Kind a0.Power ((zA.mk a0.Steps.1.Lo a0.Steps.1.Hi),(zA.mk a0.Steps.2.Lo a0.Steps.2.Hi)) a0.Spread a0.Ratio a0.Match a0.Turn)).bind fun a3 =>
  bif (a3 != 0) then (some a3) else ((ck (a2+1)).bind fun a6 =>
  k5 a6)) else (Hh a1 k3)
def Cy (F:Nat) (p0:zN) (a0:Int) (k3:Int→Option Int):Nat→Int→Option Int
  | 0,_=>none
  | n+1,a1=>Cv F p0 a0 k3 (Cy F p0 a0 k3 n) a1
def Cu (F:Nat) (p0:zN) (k3:Int→Option Int) (a0:Int):Option Int :=
  bif (decide (a0<((p0.Rays.length:Nat):Int))) then (Cy F p0 a0 k3 F 0) else (Kr)
def C4 (F:Nat) (p0:zN):Nat→Int→Option Int
  | 0,_=>none
  | n+1,a0=>Cu F p0 (C4 F p0 n) a0
def Hg (F:Nat) (p0:zN):Option Int :=
  C4 F p0 F 0
def Cw (F:Nat) (p0:zN) (k6:Int→Option Int) (a0:Int):Option Int :=
  bif (decide (a0<((p0.Rays.length:Nat):Int))) then ((Ak p0.Rays a0).bind fun a1 =>
  bif (((a1.length:Nat):Int) != p0.Site.Gates) then (some 11) else ((ck (a0+1)).bind fun a2 =>
  k6 a2)) else (Hg F p0)
def Cz (F:Nat) (p0:zN):Nat→Int→Option Int
  | 0,_=>none
  | n+1,a0=>Cw F p0 (Cz F p0 n) a0
def Hs (F:Nat) (p0:zN):Option Int :=
  (Jf F p0.Site).bind fun y6 =>
  bif (y6 != 0) then (some y6) else (bif (bif (!(Ag p0.Tilt 0 256)) then true else (!(Ag p0.Time 0 4294967296))) then (some 3) else ((ck (4*p0.Site.Rose)).bind fun x7 =>
  bif (((p0.Rays.length:Nat):Int) != x7) then (some 11) else (Cz F p0 F 0)))
def Gs (p0:Int) (p1:Int):Int :=
  bif (bif (bif (bif (decide (p0<0)) then true else (decide (p0>400000))) then true else (decide (p1<1))) then true else (decide (p1>16))) then (3) else (0)
def B9 (p0:zH):Int :=
  bif (p0.Kind==1) then (1) else (2)
def Ab (p0:zA) (p1:zA):(zA×Bool) :=
  ((zA.mk (if p1.Lo>p0.Lo then p1.Lo else p0.Lo) (if p1.Hi<p0.Hi then p1.Hi else p0.Hi)),decide ((if p1.Lo>p0.Lo then p1.Lo else p0.Lo)≤(if p1.Hi<p0.Hi then p1.Hi else p0.Hi)))
def P8 (F:Nat) (p0:zH) (p1:Int):Option (Int×Int) :=
  (Ee F p0).bind fun y2 =>
  bif (y2 != 0) then (some (0,y2)) else (bif (p1==0) then (some (p0.First,0)) else (bif (bif (p1 != 1) then true else (p0.Kind==1)) then (some (0,2)) else (some (p0.Second,0))))
def Mx (F:Nat) (p0:Int) (p1:Int):Option Int :=
  (A4i p0 p1).bind fun x1 =>
  (V4 p0 p1).bind fun x2 =>
  bif (decide (x2<0)) then ((ck (x1-1)).bind fun x3 =>
  some x3) else (some x1)
def Rj (F:Nat) (p0:Int) (p1:Int):Option Int :=
  (Mx F (IntKind.i64.wrap (0-p0)) p1).bind fun y1 =>
  some (IntKind.i64.wrap (0-y1))
def Ly (F:Nat) (p0:zH) (p1:Int) (p2:zA) (p3:Int):Option (zA×Int) :=
  (P8 F p0 p1).bind fun y4 =>
  bif (y4.2 != 0) then (some ((zA.mk 0 0),y4.2)) else (bif (bif (!(C3 p2 (-131072) 131072)) then true else (!(Ag p3 (-64) 64))) then (some ((zA.mk 0 0),3)) else ((ck (500*p0.Lambda)).bind fun x5 =>
  (ck (p3*65536)).bind fun x6 =>
  (ck (p2.Lo+x6)).bind fun x7 =>
  (ck (x5*x7)).bind fun x8 =>
  (ck (65536*y4.1)).bind fun x9 =>
  (Mx F x8 x9).bind fun a5 =>
  (ck (500*p0.Lambda)).bind fun a0 =>
  (ck (p3*65536)).bind fun a1 =>
  (ck (p2.Hi+a1)).bind fun a2 =>
  (ck (a0*a2)).bind fun a3 =>
  (ck (65536*y4.1)).bind fun a4 =>
  (Rj F a3 a4).bind fun a6 =>
  some ((zA.mk a5 a6),0)))
def J5 (F:Nat) (p0:zH) (p1:zE) (p2:Int) (p3:Int) (p4:Int):Option (zA×Bool) :=
  bif (p2==0) then ((Ly F p0 p2 (zA.mk p1.Steps.1.Lo p1.Steps.1.Hi) p3).bind fun y6 =>
  some ((zA.mk (((Ab (zA.mk y6.1.Lo y6.1.Hi) (zA.mk (IntKind.i64.wrap (0-p4)) p4)).1).Lo) (((Ab (zA.mk y6.1.Lo y6.1.Hi) (zA.mk (IntKind.i64.wrap (0-p4)) p4)).1).Hi)),(Ab (zA.mk y6.1.Lo y6.1.Hi) (zA.mk (IntKind.i64.wrap (0-p4)) p4)).2)) else (bif (p2==1) then ((Ly F p0 p2 (zA.mk p1.Steps.2.Lo p1.Steps.2.Hi) p3).bind fun a0 =>
  some ((zA.mk (((Ab (zA.mk a0.1.Lo a0.1.Hi) (zA.mk (IntKind.i64.wrap (0-p4)) p4)).1).Lo) (((Ab (zA.mk a0.1.Lo a0.1.Hi) (zA.mk (IntKind.i64.wrap (0-p4)) p4)).1).Hi)),(Ab (zA.mk a0.1.Lo a0.1.Hi) (zA.mk (IntKind.i64.wrap (0-p4)) p4)).2)) else (none))
def Kg (a0:List zD):Option ((List zD)×Int) :=
  some (a0,0)
def Dl (a1:Int) (k4:List zD→Int→Option ((List zD)×Int)) (a0:List zD):Option ((List zD)×Int) :=
  (ck (a1+1)).bind fun a2 =>
  k4 a0 a2
def Hu (a1:Int) (k7:List zD→Int→Option ((List zD)×Int)) (a0:List zD):Option ((List zD)×Int) :=
  (ck (a1+1)).bind fun a2 =>
  k7 a0 a2
def Bn (F:Nat) (p0:zH) (p1:zE) (p2:Int) (a4:Int) (k4:List zD→Int→Option ((List zD)×Int)) (a1:zA×Bool) (k7:List zD→Int→Option ((List zD)×Int)) (a3:List zD) (a2:Int):Option ((List zD)×Int) :=
  bif (bif (bif a1.2 then ((B9 p0)==2) else false) then (decide (a2≤64)) else false) then ((J5 F p0 (zE.mk p1.Kind p1.Power ((zA.mk p1.Steps.1.Lo p1.Steps.1.Hi),(zA.mk p1.Steps.2.Lo p1.Steps.2.Hi)) p1.Spread p1.Ratio p1.Match p1.Turn) 1 a2 p2).bind fun a0 =>
  bif (bif a0.2 then ((Ab (zA.mk a1.1.Lo a1.1.Hi) (zA.mk a0.1.Lo a0.1.Hi)).2) else false) then ((apd 32 a3 ([(zD.mk (a4,a2) (zA.mk (((Ab (zA.mk a1.1.Lo a1.1.Hi) (zA.mk a0.1.Lo a0.1.Hi)).1).Lo) (((Ab (zA.mk a1.1.Lo a1.1.Hi) (zA.mk a0.1.Lo a0.1.Hi)).1).Hi)))])).bind fun a5 =>
  Hu a2 k7 a5) else (Hu a2 k7 a3)) else (Dl a4 k4 a3)
def Ch (F:Nat) (p0:zH) (p1:zE) (p2:Int) (a0:Int) (k4:List zD→Int→Option ((List zD)×Int)) (a1:zA×Bool):Nat→List zD→Int→Option ((List zD)×Int)
  | 0,_,_=>none
  | n+1,a2,a3=>Bn F p0 p1 p2 a0 k4 a1 (Ch F p0 p1 p2 a0 k4 a1 n) a2 a3
def G0 (F:Nat) (p0:zH) (p1:zE) (p2:Int) (a1:Int) (k4:List zD→Int→Option ((List zD)×Int)) (a2:zA×Bool) (a0:List zD):Option ((List zD)×Int) :=
  Ch F p0 p1 p2 a1 k4 a2 F a0 (-64)
def Ef (F:Nat) (p0:zH) (p1:zE) (p2:Int) (k4:List zD→Int→Option ((List zD)×Int)) (a2:List zD) (a0:Int):Option ((List zD)×Int) :=
  bif (decide (a0≤64)) then ((J5 F p0 (zE.mk p1.Kind p1.Power ((zA.mk p1.Steps.1.Lo p1.Steps.1.Hi),(zA.mk p1.Steps.2.Lo p1.Steps.2.Hi)) p1.Spread p1.Ratio p1.Match p1.Turn) 0 a0 p2).bind fun a1 =>
  bif (bif a1.2 then ((B9 p0)==1) else false) then ((apd 32 a2 ([(zD.mk (a0,0) (zA.mk a1.1.Lo a1.1.Hi))])).bind fun a3 =>
  G0 F p0 p1 p2 a0 k4 a1 a3) else (G0 F p0 p1 p2 a0 k4 a1 a2)) else (Kg a2)
def Bw (F:Nat) (p0:zH) (p1:zE) (p2:Int):Nat→List zD→Int→Option ((List zD)×Int)
  | 0,_,_=>none
  | n+1,a0,a1=>Ef F p0 p1 p2 (Bw F p0 p1 p2 n) a0 a1
def Fz (F:Nat) (p0:zH) (p1:zE) (p2:Int):Option ((List zD)×Int) :=
  Bw F p0 p1 p2 F ([]) (-64)
def Dk (F:Nat) (p0:zH) (p1:zE) (p2:Int) (k9:Int→Option ((List zD)×Int)) (a0:Int):Option ((List zD)×Int) :=
  bif (decide (a0<(B9 p0))) then ((J5 F p0 (zE.mk p1.Kind p1.Power ((zA.mk p1.Steps.1.Lo p1.Steps.1.Hi),(zA.mk p1.Steps.2.Lo p1.Steps.2.Hi)) p1.Spread p1.Ratio p1.Match p1.Turn) a0 (-64) p2).bind fun a2 =>
  (J5 F p0 (zE.mk p1.Kind p1.Power ((zA.mk p1.Steps.1.Lo p1.Steps.1.Hi),(zA.mk p1.Steps.2.Lo p1.Steps.2.Hi)) p1.Spread p1.Ratio p1.Match p1.Turn) a0 64 p2).bind fun a3 =>
  bif (bif a2.2 then true else a3.2) then (some (([]:(List zD)),9)) else ((ck (a0+1)).bind fun a1 =>
  k9 a1)) else (Fz F p0 p1 p2)
def Ci (F:Nat) (p0:zH) (p1:zE) (p2:Int):Nat→Int→Option ((List zD)×Int)
  | 0,_=>none
  | n+1,a0=>Dk F p0 p1 p2 (Ci F p0 p1 p2 n) a0
def Ht (F:Nat) (p0:zH) (p1:zE) (p2:Int) (x5:Int):Option ((List zD)×Int) :=
  bif (x5 != 0) then (some (([]:(List zD)),x5)) else (bif (bif (decide (p2<1)) then true else (decide (p2>200000))) then (some (([]:(List zD)),3)) else (bif (p1.Kind != 3) then (some (([]:(List zD)),18)) else (Ci F p0 p1 p2 F 0)))
def Jp (F:Nat) (p0:zH) (p1:zE) (p2:Int):Option ((List zD)×Int) :=
  (Ee F p0).bind fun y3 =>
  bif (y3==0) then ((Gm F (zE.mk p1.Kind p1.Power ((zA.mk p1.Steps.1.Lo p1.Steps.1.Hi),(zA.mk p1.Steps.2.Lo p1.Steps.2.Hi)) p1.Spread p1.Ratio p1.Match p1.Turn)).bind fun a0 =>
  Ht F p0 p1 p2 a0) else (Ht F p0 p1 p2 y3)
def Ji (a0:List zA):Option (List zA) :=
  some a0
def Lh (a0:List zA) (k2:List zA→List zA→Option (List zA)) (a3:Int) (a4:Int) (a1:List zA):Option (List zA) :=
  (apd 16 a0 ([(zA.mk a3 a4)])).bind fun a2 =>
  k2 a2 a1
def Jl (a1:Int) (k6:Int→List zA→Option (List zA)) (a0:List zA):Option (List zA) :=
  (ck (a1+1)).bind fun a2 =>
  k6 a2 a0
def Fg (a4:List zA) (a1:List zA) (k2:List zA→List zA→Option (List zA)) (a8:Int) (a3:Int) (k6:Int→List zA→Option (List zA)) (a0:Int) (a2:List zA):Option (List zA) :=
  bif (decide (a0<((a1.length:Nat):Int))) then ((Ak a1 a0).bind fun a6 =>
  bif (decide (a6.Lo>a3)) then ((Ak a1 a0).bind fun a7 =>
  (apd 16 a2 ([a7])).bind fun a5 =>
  Jl a0 k6 a5) else (Jl a0 k6 a2)) else (Lh a4 k2 a8 a3 a2)
def Df (a0:List zA) (a1:List zA) (k2:List zA→List zA→Option (List zA)) (a2:Int) (a3:Int):Nat→Int→List zA→Option (List zA)
  | 0,_,_=>none
  | n+1,a5,a4=>Fg a0 a1 k2 a2 a3 (Df a0 a1 k2 a2 a3 n) a5 a4
def Jk (F:Nat) (a0:List zA) (a1:List zA) (k2:List zA→List zA→Option (List zA)) (a2:Int) (a3:Int):Option (List zA) :=
  Df a0 a1 k2 a2 a3 F 0 ([])
def J3 (a1:Int) (k9:Int→Bool→Int→Option (List zA)) (a2:Int) (a0:Bool):Option (List zA) :=
  (ck (a1+1)).bind fun a3 =>
  k9 a2 a0 a3
def Fh (a2:List zA) (k8:Int→Bool→Option (List zA)) (k9:Int→Bool→Int→Option (List zA)) (a1:Int) (a3:Bool) (a0:Int):Option (List zA) :=
  bif (decide (a0<((a2.length:Nat):Int))) then ((Ak a2 a0).bind fun a4 =>
  (gd (((decide (a4.Lo≤a1))==true&&true)) (Ak a2 a0) default).bind fun a5 =>
  bif (bif (decide (a4.Lo≤a1)) then (decide (a5.Hi>a1)) else false) then ((Ak a2 a0).bind fun a6 =>
  J3 a0 k9 a6.Hi true) else (J3 a0 k9 a1 a3)) else (k8 a1 a3)
def Dg (a0:List zA) (k8:Int→Bool→Option (List zA)):Nat→Int→Bool→Int→Option (List zA)
  | 0,_,_,_=>none
  | n+1,a2,a1,a3=>Fh a0 k8 (Dg a0 k8 n) a2 a1 a3
def De (F:Nat) (a3:List zA) (a0:List zA) (k2:List zA→List zA→Option (List zA)) (a4:Int) (k8:Int→Bool→Option (List zA)) (a1:Int) (a2:Bool):Option (List zA) :=
  bif a2 then (Dg a0 k8 F a1 false 0) else (Jk F a3 a0 k2 a4 a1)
def Cg (F:Nat) (a0:List zA) (a1:List zA) (k2:List zA→List zA→Option (List zA)) (a2:Int):Nat→Int→Bool→Option (List zA)
  | 0,_,_=>none
  | n+1,a4,a3=>De F a0 a1 k2 a2 (Cg F a0 a1 k2 a2 n) a4 a3
def Jj (F:Nat) (a0:List zA) (a1:List zA) (k2:List zA→List zA→Option (List zA)) (a2:Int) (a3:Int):Option (List zA) :=
  Cg F a0 a1 k2 a2 F a3 true
def G3 (a1:Int) (a0:Int→Int→Int→Option (List zA)) (a2:Int) (a3:Int):Option (List zA) :=
  (ck (a1+1)).bind fun a4 =>
  a0 a2 a3 a4
def Ck (F:Nat) (a6:List zA) (a1:List zA) (k2:List zA→List zA→Option (List zA)) (a3:Int→Int→Int→Option (List zA)) (a2:Int) (a5:Int) (a0:Int):Option (List zA) :=
  bif (decide (a0<((a1.length:Nat):Int))) then ((Ak a1 a0).bind fun a7 =>
  bif (decide (a7.Lo<a2)) then ((Ak a1 a0).bind fun a4 =>
  G3 a0 a3 a4.Lo a4.Hi) else (G3 a0 a3 a2 a5)) else (Jj F a6 a1 k2 a2 a5)
def C0 (F:Nat) (a0:List zA) (a1:List zA) (k2:List zA→List zA→Option (List zA)):Nat→Int→Int→Int→Option (List zA)
  | 0,_,_,_=>none
  | n+1,a2,a3,a4=>Ck F a0 a1 k2 (C0 F a0 a1 k2 n) a2 a3 a4
def Ff (F:Nat) (k2:List zA→List zA→Option (List zA)) (a1:List zA) (a0:List zA):Option (List zA) :=
  bif (decide (((a0.length:Nat):Int)>0)) then ((Ak a0 0).bind fun a2 =>
  C0 F a1 a0 k2 F a2.Lo a2.Hi 0) else (Ji a1)
def Cf (F:Nat):Nat→List zA→List zA→Option (List zA)
  | 0,_,_=>none
  | n+1,a0,a1=>Ff F (Cf F n) a0 a1
def Fs (F:Nat) (p0:List zA):Option (List zA) :=
  (apd 16 ([]:List zA) p0).bind fun l5 =>
  Cf F F ([]) l5
def Nb:Option Int :=
  some (-1)
def Bx (p0:List (List zA)) (p1:Int) (p2:Int) (k2:Int→Option Int) (a0:Int):Option Int :=
  (gd (((decide (a0<((p0.length:Nat):Int)))==true&&true)) (ck (a0-p1)) 0).bind fun a4 =>
  bif (bif (decide (a0<((p0.length:Nat):Int))) then (decide (a4≤p2)) else false) then ((Ak p0 p1).bind fun a1 =>
  bif (decide (((a1.length:Nat):Int)>0)) then ((Ak p0 a0).bind fun a2 =>
  bif (decide (((a2.length:Nat):Int)>0)) then (some a0) else ((ck (a0+1)).bind fun a3 =>
  k2 a3)) else (Nb)) else (Nb)
def Dr (p0:List (List zA)) (p1:Int) (p2:Int):Nat→Int→Option Int
  | 0,_=>none
  | n+1,a0=>Bx p0 p1 p2 (Dr p0 p1 p2 n) a0
def Pb (F:Nat) (p0:List (List zA)) (p1:Int) (p2:Int):Option Int :=
  (ck (p1+1)).bind fun a0 =>
  Dr p0 p1 p2 F a0
def Pa (a0:List zF):Option (List zF) :=
  some a0
def Hv (a2:Int) (k2:List zF→Int→Option (List zF)) (a0:List zF):Option (List zF) :=
  (ck (a2+1)).bind fun a1 =>
  k2 a0 a1
def F1 (a1:Int) (k4:Int→List zF→Option (List zF)) (a0:List zF):Option (List zF) :=
  (ck (a1+1)).bind fun a2 =>
  k4 a2 a0
def Ce (p0:List (List (List zA))) (p1:Int) (p2:Int) (a2:Int) (a0:Int) (k4:Int→List zF→Option (List zF)) (a3:List zF) (k7:Int→Option (List zF)) (a1:Int):Option (List zF) :=
  bif (bif (decide (a1<((p0.length:Nat):Int))) then (decide (a1≤p2)) else false) then ((Ak p0 a2).bind fun a5 =>
  (Ak a5 a0).bind fun a6 =>
  bif (decide (((a6.length:Nat):Int)>0)) then ((ck (a2+a1)).bind fun a9 =>
  (V4 a9 ((p0.length:Nat):Int)).bind fun aA =>
  (Ak p0 aA).bind fun a7 =>
  (Ak a7 a0).bind fun a8 =>
  bif (decide (((a8.length:Nat):Int)>0)) then ((ck (a2+a1)).bind fun aB =>
  (V4 aB ((p0.length:Nat):Int)).bind fun aC =>
  (ck (p1*a1)).bind fun aD =>
  (apd 40 a3 ([(zF.mk (zT.mk a2 a0) (zT.mk aC a0) aD)])).bind fun a4 =>
  F1 a0 k4 a4) else ((ck (a1+1)).bind fun aE =>
  k7 aE)) else (F1 a0 k4 a3)) else (F1 a0 k4 a3)
def E2 (p0:List (List (List zA))) (p1:Int) (p2:Int) (a2:Int) (a1:Int) (k4:Int→List zF→Option (List zF)) (a0:List zF):Nat→Int→Option (List zF)
  | 0,_=>none
  | n+1,a3=>Ce p0 p1 p2 a2 a1 k4 a0 (E2 p0 p1 p2 a2 a1 k4 a0 n) a3
def Gf (F:Nat) (p0:List (List (List zA))) (p1:Int) (p2:Int) (a2:Int) (a1:Int) (k4:Int→List zF→Option (List zF)) (a0:List zF):Option (List zF) :=
  E2 p0 p1 p2 a2 a1 k4 a0 F 1
def Ge (F:Nat) (p0:List (List (List zA))) (p1:Int) (p2:Int) (a0:Int) (k2:List zF→Int→Option (List zF)) (k4:Int→List zF→Option (List zF)) (a1:Int) (a2:List zF):Option (List zF) :=
  (Ak p0 a0).bind fun a5 =>
  bif (decide (a1<((a5.length:Nat):Int))) then ((Ak p0 a0).bind fun a6 =>
  (Pb F a6 a1 p2).bind fun a3 =>
  bif (decide (a3≥0)) then ((ck (a3-a1)).bind fun a7 =>
  (ck (p1*a7)).bind fun a8 =>
  (apd 40 a2 ([(zF.mk (zT.mk a0 a1) (zT.mk a0 a3) a8)])).bind fun a4 =>
  Gf F p0 p1 p2 a0 a1 k4 a4) else (Gf F p0 p1 p2 a0 a1 k4 a2)) else (Hv a0 k2 a2)
def Da (F:Nat) (p0:List (List (List zA))) (p1:Int) (p2:Int) (a0:Int) (k2:List zF→Int→Option (List zF)):Nat→Int→List zF→Option (List zF)
  | 0,_,_=>none
  | n+1,a2,a1=>Ge F p0 p1 p2 a0 k2 (Da F p0 p1 p2 a0 k2 n) a2 a1
def Gd (F:Nat) (p0:List (List (List zA))) (p1:Int) (p2:Int) (k2:List zF→Int→Option (List zF)) (a0:List zF) (a1:Int):Option (List zF) :=
  bif (decide (a1<((p0.length:Nat):Int))) then (Da F p0 p1 p2 a1 k2 F 0 a0) else (Pa a0)
def E0 (F:Nat) (p0:List (List (List zA))) (p1:Int) (p2:Int):Nat→List zF→Int→Option (List zF)
  | 0,_,_=>none
  | n+1,a0,a1=>Gd F p0 p1 p2 (E0 F p0 p1 p2 n) a0 a1
def Pq (F:Nat) (p0:List (List (List zA))) (p1:Int) (p2:Int):Option (List zF) :=
  E0 F p0 p1 p2 F ([]) 0
def L7 (F:Nat) (a0:List zA):Option (List zA) :=
  (Fs F a0).bind fun a1 =>
  some a1
def L8 (a1:Int) (k2:List zA→Int→Option (List zA)) (a0:List zA):Option (List zA) :=
  (ck (a1+1)).bind fun a2 =>
  k2 a0 a2
def L9 (a1:Int) (k4:List zA→Int→Option (List zA)) (a0:List zA):Option (List zA) :=
  (ck (a1+1)).bind fun a2 =>
  k4 a0 a2
def H7 (p0:List zA) (p1:List zA) (a4:Int) (k2:List zA→Int→Option (List zA)) (k4:List zA→Int→Option (List zA)) (a1:List zA) (a0:Int):Option (List zA) :=
  bif (decide (a0<((p1.length:Nat):Int))) then ((Ak p0 a4).bind fun a2 =>
  (Ak p1 a0).bind fun a3 =>
  bif ((Ab a2 a3).2) then ((apd 16 a1 ([(zA.mk (((Ab a2 a3).1).Lo) (((Ab a2 a3).1).Hi))])).bind fun a5 =>
  L9 a0 k4 a5) else (L9 a0 k4 a1)) else (L8 a4 k2 a1)
def Es (p0:List zA) (p1:List zA) (a0:Int) (k2:List zA→Int→Option (List zA)):Nat→List zA→Int→Option (List zA)
  | 0,_,_=>none
  | n+1,a1,a2=>H7 p0 p1 a0 k2 (Es p0 p1 a0 k2 n) a1 a2
def H6 (F:Nat) (p0:List zA) (p1:List zA) (k2:List zA→Int→Option (List zA)) (a0:List zA) (a1:Int):Option (List zA) :=
  bif (decide (a1<((p0.length:Nat):Int))) then (Es p0 p1 a1 k2 F a0 0) else (L7 F a0)
def Fw (F:Nat) (p0:List zA) (p1:List zA):Nat→List zA→Int→Option (List zA)
  | 0,_,_=>none
  | n+1,a0,a1=>H6 F p0 p1 (Fw F p0 p1 n) a0 a1
def H5 (F:Nat) (p0:List zA) (p1:List zA):Option (List zA) :=
  Fw F p0 p1 F ([]) 0
def La (F:Nat) (a0:List zA):Option (List zA) :=
  (Fs F a0).bind fun a1 =>
  some a1
def H8 (F:Nat) (p0:List zA) (p1:Int) (k2:List zA→Int→Option (List zA)) (a1:List zA) (a0:Int):Option (List zA) :=
  bif (decide (a0<((p0.length:Nat):Int))) then ((Ak p0 a0).bind fun a3 =>
  (ck (a3.Lo-p1)).bind fun a6 =>
  (Ak p0 a0).bind fun a4 =>
  (ck (a4.Hi+p1)).bind fun a7 =>
  (apd 16 a1 ([(zA.mk a6 a7)])).bind fun a2 =>
  (ck (a0+1)).bind fun a5 =>
  k2 a2 a5) else (La F a1)
def H9 (F:Nat) (p0:List zA) (p1:Int):Nat→List zA→Int→Option (List zA)
  | 0,_,_=>none
  | n+1,a0,a1=>H8 F p0 p1 (H9 F p0 p1 n) a0 a1
def J8 (F:Nat) (p0:List zA) (p1:Int):Option (List zA) :=
  H9 F p0 p1 F ([]) 0
def Pw:Option Bool :=
  some true
def H3 (p0:List zA) (p1:List zA) (k2:Int→Option Bool) (a0:Int):Option Bool :=
  bif (decide (a0<((p0.length:Nat):Int))) then ((Ak p0 a0).bind fun a1 =>
  (Ak p1 a0).bind fun a2 =>
  bif (!(((a1.Lo:Int)==a2.Lo)&&(((a1.Hi:Int)==a2.Hi)&&true))) then (some false) else ((ck (a0+1)).bind fun a3 =>
  k2 a3)) else (Pw)
def H4 (p0:List zA) (p1:List zA):Nat→Int→Option Bool
  | 0,_=>none
  | n+1,a0=>H3 p0 p1 (H4 p0 p1 n) a0
def Ln (F:Nat) (p0:List zA) (p1:List zA):Option Bool :=
  bif (((p0.length:Nat):Int) != ((p1.length:Nat):Int)) then (some false) else (H4 p0 p1 F 0)
def My (a0:List (List (List zA))):Option (List (List (List zA))) :=
  some a0
def G2 (a9:Int) (a1:List (List (List zA))) (k4:Bool→Int→List (List (List zA))→Option (List (List (List zA)))) (a0:zF) (aB:List zA) (aC:List zA) (a5:Bool):Option (List (List (List zA))) :=
  (Ak a1 a0.A.Ray).bind fun a3 =>
  (Ak a1 a0.B.Ray).bind fun aD =>
  (Ak a3 a0.A.Gate).bind fun aE =>
  (Gk a3 a0.A.Gate aB).bind fun a6 =>
  (Gk a1 a0.A.Ray a6).bind fun a2 =>
  (Ak a2 a0.B.Ray).bind fun a4 =>
  (Ak a4 a0.B.Gate).bind fun aF =>
  (Gk a4 a0.B.Gate aC).bind fun a7 =>
  (Gk a2 a0.B.Ray a7).bind fun a8 =>
  (ck (a9+1)).bind fun aA =>
  k4 a5 aA a8
def Dm (F:Nat) (y6:List zF) (k3:Bool→List (List (List zA))→Option (List (List (List zA)))) (k4:Bool→Int→List (List (List zA))→Option (List (List (List zA)))) (a7:Bool) (a2:Int) (a1:List (List (List zA))):Option (List (List (List zA))) :=
  bif (decide (a2<((y6.length:Nat):Int))) then ((Ak y6 a2).bind fun a0 =>
  (Ak a1 a0.A.Ray).bind fun a9 =>
  (Ak a9 a0.A.Gate).bind fun a3 =>
  (Ak a1 a0.B.Ray).bind fun aA =>
  (Ak aA a0.B.Gate).bind fun a4 =>
  (J8 F a4 a0.Most).bind fun aB =>
  (H5 F a3 aB).bind fun a5 =>
  (J8 F a3 a0.Most).bind fun aC =>
  (H5 F a4 aC).bind fun a6 =>
  (Ln F a5 a3).bind fun a8 =>
  (gd (((!a8)==false&&true)) (Ln F a6 a4) default).bind fun aD =>
  bif (bif (!a8) then true else (!aD)) then (G2 a2 a1 k4 a0 a5 a6 true) else (G2 a2 a1 k4 a0 a5 a6 a7)) else (k3 a7 a1)
def Bz (F:Nat) (y6:List zF) (k3:Bool→List (List (List zA))→Option (List (List (List zA)))):Nat→Bool→Int→List (List (List zA))→Option (List (List (List zA)))
  | 0,_,_,_=>none
  | n+1,a0,a2,a1=>Dm F y6 k3 (Bz F y6 k3 n) a0 a2 a1
def Ek (F:Nat) (y6:List zF) (k3:Bool→List (List (List zA))→Option (List (List (List zA)))) (a1:Bool) (a0:List (List (List zA))):Option (List (List (List zA))) :=
  bif a1 then (Bz F y6 k3 F false 0 a0) else (My a0)
def Cj (F:Nat) (y6:List zF):Nat→Bool→List (List (List zA))→Option (List (List (List zA)))
  | 0,_,_=>none
  | n+1,a0,a1=>Ek F y6 (Cj F y6 n) a0 a1
def J1 (F:Nat) (y6:List zF) (a0:List (List (List zA))):Option (List (List (List zA))) :=
  Cj F y6 F true a0
def J2 (a1:Int) (k6:List (List (List zA))→Int→Option (List (List (List zA)))) (a0:List (List (List zA))):Option (List (List (List zA))) :=
  (ck (a1+1)).bind fun a2 =>
  k6 a0 a2
def Em (F:Nat) (p0:List (List (List zA))) (a0:Int) (k6:List (List (List zA))→Int→Option (List (List (List zA)))) (k8:Int→List (List (List zA))→Option (List (List (List zA)))) (a2:Int) (a1:List (List (List zA))):Option (List (List (List zA))) :=
  (Ak p0 a0).bind fun a5 =>
  bif (decide (a2<((a5.length:Nat):Int))) then ((Ak a1 a0).bind fun a6 =>
  (Ak p0 a0).bind fun a7 =>
  (Ak a7 a2).bind fun a8 =>
  (Fs F a8).bind fun aA =>
  (apd 24 a6 ([aA])).bind fun a3 =>
  (Ak a1 a0).bind fun aB =>
  (Gk a1 a0 a3).bind fun a4 =>
  (ck (a2+1)).bind fun a9 =>
  k8 a9 a4) else (J2 a0 k6 a1)
def Eo (F:Nat) (p0:List (List (List zA))) (a0:Int) (k6:List (List (List zA))→Int→Option (List (List (List zA)))):Nat→Int→List (List (List zA))→Option (List (List (List zA)))
  | 0,_,_=>none
  | n+1,a2,a1=>Em F p0 a0 k6 (Eo F p0 a0 k6 n) a2 a1
def El (F:Nat) (p0:List (List (List zA))) (y6:List zF) (k6:List (List (List zA))→Int→Option (List (List (List zA)))) (a0:List (List (List zA))) (a1:Int):Option (List (List (List zA))) :=
  bif (decide (a1<((p0.length:Nat):Int))) then (Eo F p0 a1 k6 F 0 a0) else (J1 F y6 a0)
def Dn (F:Nat) (p0:List (List (List zA))) (y6:List zF):Nat→List (List (List zA))→Int→Option (List (List (List zA)))
  | 0,_,_=>none
  | n+1,a0,a1=>El F p0 y6 (Dn F p0 y6 n) a0 a1
def Jq (F:Nat) (p0:List (List (List zA))) (p1:Int) (p2:Int):Option (List (List (List zA))) :=
  (Pq F p0 p1 p2).bind fun y6 =>
  (mkI 24 ((p0.length:Nat):Int) ([]:(List (List zA)))).bind fun a0 =>
  Dn F p0 y6 F a0 0
def K9 (a1:Int) (a0:List zD):Option zG :=
  bif (decide (((a0.length:Nat):Int)>1)) then (some (zG.mk 3 a0)) else (some (zG.mk a1 a0))
def J0 (a1:Int) (k2:Int→List zD→Int→Option zG) (a2:Int) (a0:List zD):Option zG :=
  (ck (a1+1)).bind fun a3 =>
  k2 a2 a0 a3
def Gg (F:Nat) (p0:List zD) (p1:List zA) (k2:Int→List zD→Int→Option zG) (a4:Int) (a2:List zD) (a0:Int):Option zG :=
  bif (decide (a0<((p0.length:Nat):Int))) then ((Ak p0 a0).bind fun a6 =>
  (H5 F ([a6.Speed]) p1).bind fun a1 =>
  bif (decide (((a1.length:Nat):Int)>0)) then ((Ak p0 a0).bind fun a3 =>
  (Ak a1 0).bind fun a7 =>
  (ck (((a1.length:Nat):Int)-1)).bind fun a9 =>
  (Ak a1 a9).bind fun a8 =>
  (apd 32 a2 ([(zD.mk (a3.Whole.1,a3.Whole.2) (zA.mk a7.Lo a8.Hi))])).bind fun a5 =>
  J0 a0 k2 2 a5) else (J0 a0 k2 a4 a2)) else (K9 a4 a2)
def Gh (F:Nat) (p0:List zD) (p1:List zA):Nat→Int→List zD→Int→Option zG
  | 0,_,_,_=>none
  | n+1,a1,a0,a2=>Gg F p0 p1 (Gh F p0 p1 n) a1 a0 a2
def Pr (F:Nat) (p0:List zD) (p1:List zA):Option zG :=
  Gh F p0 p1 F 4 ([]) 0
def Le (a0:List (List zG)):Option ((List (List zG))×Int) :=
  some (a0,0)
def Lf (a1:Int) (k6:List (List zG)→Int→Option ((List (List zG))×Int)) (a0:List (List zG)):Option ((List (List zG))×Int) :=
  (ck (a1+1)).bind fun a2 =>
  k6 a0 a2
def Lg (a0:List (List zG)) (a3:Int) (k6:List (List zG)→Int→Option ((List (List zG))×Int)) (a1:List zG):Option ((List (List zG))×Int) :=
  (apd 24 a0 ([a1])).bind fun a2 =>
  Lf a3 k6 a2
def G1 (a0:List zG) (a3:Int) (k9:List zG→Int→Option ((List (List zG))×Int)) (a4:Int) (a1:List zD):Option ((List (List zG))×Int) :=
  (apd 32 a0 ([(zG.mk a4 a1)])).bind fun a2 =>
  (ck (a3+1)).bind fun a5 =>
  k9 a2 a5
def Fa (F:Nat) (p1:zN) (a5:List (List (List zD))) (aD:List (List (List zA))) (a4:List (List zG)) (a1:Int) (k6:List (List zG)→Int→Option ((List (List zG))×Int)) (k9:List zG→Int→Option ((List (List zG))×Int)) (a2:List zG) (a0:Int):Option ((List (List zG))×Int) :=
  (Ak p1.Rays a1).bind fun a6 =>
  bif (decide (a0<((a6.length:Nat):Int))) then ((Ak p1.Rays a1).bind fun a7 =>
  (Ak a7 a0).bind fun a8 =>
  bif (a8.Kind==3) then ((Ak a5 a1).bind fun a9 =>
  (Ak a9 a0).bind fun aA =>
  (Ak aD a1).bind fun aB =>
  (Ak aB a0).bind fun aC =>
  (Pr F aA aC).bind fun a3 =>
  G1 a2 a0 k9 a3.State a3.Guesses) else (G1 a2 a0 k9 1 ([]))) else (Lg a4 a1 k6 a2)
def E9 (F:Nat) (p1:zN) (a1:List (List (List zD))) (a3:List (List (List zA))) (a0:List (List zG)) (a2:Int) (k6:List (List zG)→Int→Option ((List (List zG))×Int)):Nat→List zG→Int→Option ((List (List zG))×Int)
  | 0,_,_=>none
  | n+1,a4,a5=>Fa F p1 a1 a3 a0 a2 k6 (E9 F p1 a1 a3 a0 a2 k6 n) a4 a5
def F9 (F:Nat) (p1:zN) (a2:List (List (List zD))) (a3:List (List (List zA))) (k6:List (List zG)→Int→Option ((List (List zG))×Int)) (a0:List (List zG)) (a1:Int):Option ((List (List zG))×Int) :=
  bif (decide (a1<((p1.Rays.length:Nat):Int))) then (E9 F p1 a2 a3 a0 a1 k6 F ([]) 0) else (Le a0)
def E8 (F:Nat) (p1:zN) (a0:List (List (List zD))) (a1:List (List (List zA))):Nat→List (List zG)→Int→Option ((List (List zG))×Int)
  | 0,_,_=>none
  | n+1,a2,a3=>F9 F p1 a0 a1 (E8 F p1 a0 a1 n) a2 a3
def Jg (F:Nat) (p1:zN) (p3:Int) (p4:Int) (a0:List (List (List zA))) (a1:List (List (List zD))):Option ((List (List zG))×Int) :=
  (Jq F a0 p3 p4).bind fun a2 =>
  E8 F p1 a1 a2 F ([]) 0
def Kh (a3:Int) (a0:List (List (List zA))→List (List (List zD))→Int→Option ((List (List zG))×Int)) (a1:List (List (List zA))) (a2:List (List (List zD))):Option ((List (List zG))×Int) :=
  (ck (a3+1)).bind fun a4 =>
  a0 a1 a2 a4
def Ki (a1:List (List (List zA))) (a2:List (List (List zD))) (a7:Int) (a0:List (List (List zA))→List (List (List zD))→Int→Option ((List (List zG))×Int)) (a3:List (List zA)) (a4:List (List zD)):Option ((List (List zG))×Int) :=
  (apd 24 a1 ([a3])).bind fun a5 =>
  (apd 24 a2 ([a4])).bind fun a6 =>
  Kh a7 a0 a5 a6
def Kj (a3:Int) (a0:List (List zA)→List (List zD)→Int→Option ((List (List zG))×Int)) (a1:List (List zA)) (a2:List (List zD)):Option ((List (List zG))×Int) :=
  (ck (a3+1)).bind fun a4 =>
  a0 a1 a2 a4
def Hw (F:Nat) (a1:List (List zA)) (a2:List (List zD)) (a6:Int) (a0:List (List zA)→List (List zD)→Int→Option ((List (List zG))×Int)) (a7:(List zD)×Int) (a3:List zA):Option ((List (List zG))×Int) :=
  (Fs F a3).bind fun a8 =>
  (apd 24 a1 ([a8])).bind fun a4 =>
  (apd 24 a2 ([a7.1])).bind fun a5 =>
  Kj a6 a0 a4 a5
def Ei (F:Nat) (a5:List (List zA)) (a6:List (List zD)) (a9:Int) (a3:List (List zA)→List (List zD)→Int→Option ((List (List zG))×Int)) (a1:(List zD)×Int) (a4:List zA→Int→Option ((List (List zG))×Int)) (a2:List zA) (a0:Int):Option ((List (List zG))×Int) :=
  bif (decide (a0<((a1.1.length:Nat):Int))) then ((Ak a1.1 a0).bind fun a8 =>
  (apd 16 a2 ([a8.Speed])).bind fun a7 =>
  (ck (a0+1)).bind fun aA =>
  a4 a7 aA) else (Hw F a5 a6 a9 a3 a1 a2)
def Ej (F:Nat) (a1:List (List zA)) (a2:List (List zD)) (a3:Int) (a0:List (List zA)→List (List zD)→Int→Option ((List (List zG))×Int)) (a4:(List zD)×Int):Nat→List zA→Int→Option ((List (List zG))×Int)
  | 0,_,_=>none
  | n+1,a5,a6=>Ei F a1 a2 a3 a0 a4 (Ej F a1 a2 a3 a0 a4 n) a5 a6
def Eh (F:Nat) (p0:zH) (p1:zN) (p2:Int) (a8:List (List (List zA))) (a9:List (List (List zD))) (a1:Int) (a6:List (List (List zA))→List (List (List zD))→Int→Option ((List (List zG))×Int)) (a7:List (List zA)→List (List zD)→Int→Option ((List (List zG))×Int)) (a4:List (List zA)) (a5:List (List zD)) (a2:Int):Option ((List (List zG))×Int) :=
  (Ak p1.Rays a1).bind fun aA =>
  bif (decide (a2<((aA.length:Nat):Int))) then ((Ak p1.Rays a1).bind fun aB =>
  (Ak aB a2).bind fun a0 =>
  (Jp F p0 (zE.mk a0.Kind a0.Power ((zA.mk a0.Steps.1.Lo a0.Steps.1.Hi),(zA.mk a0.Steps.2.Lo a0.Steps.2.Hi)) a0.Spread a0.Ratio a0.Match a0.Turn) p2).bind fun a3 =>
  bif (a3.2==9) then (some (([]:(List (List zG))),a3.2)) else (Ej F a4 a5 a2 a7 a3 F ([]) 0)) else (Ki a8 a9 a1 a6 a4 a5)
def By (F:Nat) (p0:zH) (p1:zN) (p2:Int) (a1:List (List (List zA))) (a2:List (List (List zD))) (a3:Int) (a0:List (List (List zA))→List (List (List zD))→Int→Option ((List (List zG))×Int)):Nat→List (List zA)→List (List zD)→Int→Option ((List (List zG))×Int)
  | 0,_,_,_=>none
  | n+1,a4,a5,a6=>Eh F p0 p1 p2 a1 a2 a3 a0 (By F p0 p1 p2 a1 a2 a3 a0 n) a4 a5 a6
def Eg (F:Nat) (p0:zH) (p1:zN) (p2:Int) (p3:Int) (p4:Int) (a3:List (List (List zA))→List (List (List zD))→Int→Option ((List (List zG))×Int)) (a0:List (List (List zA))) (a1:List (List (List zD))) (a2:Int):Option ((List (List zG))×Int) :=
  bif (decide (a2<((p1.Rays.length:Nat):Int))) then (By F p0 p1 p2 a0 a1 a2 a3 F ([]) ([]) 0) else (Jg F p1 p3 p4 a0 a1)
def Bo (F:Nat) (p0:zH) (p1:zN) (p2:Int) (p3:Int) (p4:Int):Nat→List (List (List zA))→List (List (List zD))→Int→Option ((List (List zG))×Int)
  | 0,_,_,_=>none
  | n+1,a0,a1,a2=>Eg F p0 p1 p2 p3 p4 (Bo F p0 p1 p2 p3 p4 n) a0 a1 a2
def Fe (F:Nat) (p0:zH) (p1:zN) (p2:Int) (p3:Int) (p4:Int) (a0:Int):Option ((List (List zG))×Int) :=
  bif (a0 != 0) then (some (([]:(List (List zG))),a0)) else (Bo F p0 p1 p2 p3 p4 F ([]) ([]) 0)
def Fc (F:Nat) (p0:zH) (p1:zN) (p2:Int) (p3:Int) (p4:Int) (a0:Int):Option ((List (List zG))×Int) :=
  bif (a0==0) then (Fe F p0 p1 p2 p3 p4 (Gs p3 p4)) else (Fe F p0 p1 p2 p3 p4 a0)
def Fb (F:Nat) (p0:zH) (p1:zN) (p2:Int) (p3:Int) (p4:Int) (x9:Int):Option ((List (List zG))×Int) :=
  bif (bif (x9==0) then (bif (decide (p2<1)) then true else (decide (p2>200000))) else false) then (Fc F p0 p1 p2 p3 p4 3) else (Fc F p0 p1 p2 p3 p4 x9)
def Mh (F:Nat) (p0:zH) (p1:zN) (p2:Int) (p3:Int) (p4:Int):Option ((List (List zG))×Int) :=
  (Ee F p0).bind fun y7 =>
  bif (y7==0) then ((Hs F p1).bind fun a0 =>
  Fb F p0 p1 p2 p3 p4 a0) else (Fb F p0 p1 p2 p3 p4 y7)
def Mq:Option Bool :=
  some true
def Eb (p0:List zC) (p1:List zD) (k2:Int→Option Bool) (a2:Int):Option Bool :=
  bif (decide (a2<((p0.length:Nat):Int))) then ((Ak p0 a2).bind fun a0 =>
  (Ak p1 a2).bind fun a1 =>
  (gd (((!(((a0.Whole.1:Int)==a1.Whole.1)&&(((a0.Whole.2:Int)==a1.Whole.2)&&true)))==false&&true)) (Ak p0 a2) default).bind fun a3 =>
  (gd (((!(((a0.Whole.1:Int)==a1.Whole.1)&&(((a0.Whole.2:Int)==a1.Whole.2)&&true)))==false&&true)) (Ak p1 a2) default).bind fun a4 =>
  bif (bif (!(((a0.Whole.1:Int)==a1.Whole.1)&&(((a0.Whole.2:Int)==a1.Whole.2)&&true))) then true else (!(((a3.Speed.Lo:Int)==a4.Speed.Lo)&&(((a3.Speed.Hi:Int)==a4.Speed.Hi)&&true)))) then (some false) else ((ck (a2+1)).bind fun a5 =>
  k2 a5)) else (Mq)
def Ec (p0:List zC) (p1:List zD):Nat→Int→Option Bool
  | 0,_=>none
  | n+1,a0=>Eb p0 p1 (Ec p0 p1 n) a0
def L5 (F:Nat) (p0:List zC) (p1:List zD):Option Bool :=
  bif (((p0.length:Nat):Int) != ((p1.length:Nat):Int)) then (some false) else (Ec p0 p1 F 0)
def Gq:Option Bool :=
  some K6
def Gr (a0:Int) (k3:Int→Option Bool):Option Bool :=
  (ck (a0+1)).bind fun a1 =>
  k3 a1
def C8 (F:Nat) (a4:(List (List zK))×Int) (a5:(List (List zG))×Int) (a1:Int) (k3:Int→Option Bool) (k5:Int→Option Bool) (a0:Int):Option Bool :=
  (Ak a4.1 a1).bind fun a6 =>
  bif (decide (a0<((a6.length:Nat):Int))) then ((Ak a4.1 a1).bind fun a7 =>
  (Ak a7 a0).bind fun a2 =>
  (Ak a5.1 a1).bind fun a8 =>
  (Ak a8 a0).bind fun a3 =>
  bif (a2.State != a3.State) then (bif (bif (a2.State != a3.State) then true else true) then (some false) else ((ck (a0+1)).bind fun aD =>
  k5 aD)) else ((Ak a4.1 a1).bind fun a9 =>
  (Ak a9 a0).bind fun aA =>
  (Ak a5.1 a1).bind fun aB =>
  (Ak aB a0).bind fun aC =>
  (L5 F aA.Guesses aC.Guesses).bind fun aF =>
  bif (bif (a2.State != a3.State) then true else (!aF)) then (some false) else ((ck (a0+1)).bind fun aE =>
  k5 aE))) else (Gr a1 k3)
def Ca (F:Nat) (a1:(List (List zK))×Int) (a2:(List (List zG))×Int) (a0:Int) (k3:Int→Option Bool):Nat→Int→Option Bool
  | 0,_=>none
  | n+1,a3=>C8 F a1 a2 a0 k3 (Ca F a1 a2 a0 k3 n) a3
def C7 (F:Nat) (a1:(List (List zK))×Int) (a2:(List (List zG))×Int) (k3:Int→Option Bool) (a0:Int):Option Bool :=
  bif (decide (a0<((a1.1.length:Nat):Int))) then ((Ak a1.1 a0).bind fun a3 =>
  (Ak a2.1 a0).bind fun a4 =>
  bif (((a3.length:Nat):Int) != ((a4.length:Nat):Int)) then (some false) else (Ca F a1 a2 a0 k3 F 0)) else (Gq)
def Bq (F:Nat) (a0:(List (List zK))×Int) (a1:(List (List zG))×Int):Nat→Int→Option Bool
  | 0,_=>none
  | n+1,a2=>C7 F a0 a1 (Bq F a0 a1 n) a2
def Ez (F:Nat) (p0:zH) (p1:zN) (p2:Int) (p3:Int) (p4:Int):Option Bool :=
  (Ng F (zR.mk p0.Lambda p0.Kind p0.First p0.Second p0.Count) p1 p2 p3 p4).bind fun a0 =>
  (Mh F p0 p1 p2 p3 p4).bind fun a1 =>
  bif (bif (((a0.1.length:Nat):Int) != ((a1.1.length:Nat):Int)) then true else (a0.2 != a1.2)) then (some false) else (Bq F a0 a1 F 0)
def C9 (F:Nat) (p0:zH) (p1:zN) (p2:Int) (p3:Int) (p4:Int) (k6:Int→Option Bool) (a0:Int):Option Bool :=
  bif (decide (a0<((p1.Rays.length:Nat):Int))) then ((Ak p1.Rays a0).bind fun a1 =>
  bif (decide (((a1.length:Nat):Int)>6)) then (some K6) else ((ck (a0+1)).bind fun a2 =>
  k6 a2)) else (Ez F p0 p1 p2 p3 p4)
def Cb (F:Nat) (p0:zH) (p1:zN) (p2:Int) (p3:Int) (p4:Int):Nat→Int→Option Bool
  | 0,_=>none
  | n+1,a0=>C9 F p0 p1 p2 p3 p4 (Cb F p0 p1 p2 p3 p4 n) a0
def Gp (F:Nat) (p0:zH) (p1:zN) (p2:Int) (p3:Int) (p4:Int):Option Bool :=
  bif (decide (((p1.Rays.length:Nat):Int)>8)) then (some K6) else (Cb F p0 p1 p2 p3 p4 F 0)
end Go.Proofs.YtbhjgebjojdohaaGreat
