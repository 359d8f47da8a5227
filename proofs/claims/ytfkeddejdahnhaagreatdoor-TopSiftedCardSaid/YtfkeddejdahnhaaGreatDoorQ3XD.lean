import Derived.Test.YtfkeddejdahnhaaGreatDoorProg
import Derived.Test.YtfkeddejdahnhaaGreatDoorQ3EB
namespace Go.Proofs.YtfkeddejdahnhaaGreatDoor
open Go Go.RowKit Go.Eng
set_option maxRecDepth 10000
set_option maxHeartbeats 4000000
set_option linter.unusedVariables false
set_option linter.unusedSimpArgs false
structure zB where
  s:ByteArray
  at_:Int
  token:ByteArray
  from_:Int
  deriving Inhabited,DecidableEq
structure zC where
  Op:Int
  Value_:Int
  Rays:Int
  Gates:Int
  Args:(List zC)
  deriving Inhabited
structure zR where
  Name:ByteArray
  When:zC
  deriving Inhabited
structure zW where
  Kind:Int
  Lambda:Int
  First:Int
  Second:Int
  Count:Int
  Gates:Int
  Base:Int
  Speeds:(List Int)
  Jump:Int
  Slip:Int
  Slips:(List Int)
  Loud:(List Int)
  deriving Inhabited,DecidableEq
structure zU where
  Air:zW
  Rules:Int
  Weak:Int
  Far:Int
  deriving Inhabited,DecidableEq
structure zH where
  Lambda:Int
  Kind:Int
  First:Int
  Second:Int
  Count:Int
  deriving Inhabited,DecidableEq
def zH.cells (x:zH):List Value:=[.int .i64 x.Lambda,.int .i64 x.Kind,.int .i64 x.First,.int .i64 x.Second,.int .i64 x.Count]
structure zA where
  Lo:Int
  Hi:Int
  deriving Inhabited,DecidableEq
def zA.cells (x:zA):List Value:=[.int .i64 x.Lo,.int .i64 x.Hi]
theorem zA.cells_len (x:zA):(zA.cells x).length=2:=rfl
structure zV where
  Level:Int
  Phase:Int
  Noise:zA
  deriving Inhabited,DecidableEq
structure zQ where
  H:Int
  P:Int
  V:Int
  Q:Int
  deriving Inhabited,DecidableEq
def zQ.cells (x:zQ):List Value:=[.int .i64 x.H,.int .i64 x.P,.int .i64 x.V,.int .i64 x.Q]
theorem zQ.cells_len (x:zQ):(zQ.cells x).length=4:=rfl
structure zT where
  base:Int
  width:Int
  sum:Int
  count:Int
  deriving Inhabited,DecidableEq
structure zD where
  Kind:Int
  Power:zA
  Steps:(zA×zA)
  Spread:Int
  Ratio:zA
  Match:zA
  Turn:zA
  deriving Inhabited,DecidableEq
def zD.cells (x:zD):List Value:=[.int .i64 x.Kind,.int .i64 x.Power.Lo,.int .i64 x.Power.Hi,.int .i64 x.Steps.1.Lo,.int .i64 x.Steps.1.Hi,.int .i64 x.Steps.2.Lo,.int .i64 x.Steps.2.Hi,.int .i64 x.Spread,.int .i64 x.Ratio.Lo,.int .i64 x.Ratio.Hi,.int .i64 x.Match.Lo,.int .i64 x.Match.Hi,.int .i64 x.Turn.Lo,.int .i64 x.Turn.Hi]
theorem zD.cells_len (x:zD):(zD.cells x).length=14:=rfl
structure zX where
  Name:ByteArray
  X:Int
  Y:Int
  Z:Int
  Rose:Int
  Gates:Int
  Step:Int
  Width:Int
  deriving Inhabited,DecidableEq
structure zJ where
  Site:zX
  Tilt:Int
  Time:Int
  Rays:(List (List zD))
  deriving Inhabited,DecidableEq
structure zG where
  span:zA
  has:Bool
  deriving Inhabited,DecidableEq
def zG.cells (x:zG):List Value:=[.int .i64 x.span.Lo,.int .i64 x.span.Hi,.bool x.has]
theorem zG.cells_len (x:zG):(zG.cells x).length=3:=rfl
structure zN where
  s:zJ
  n:Int
  tests:(List (ByteArray×(List Int)))
  values:(List (ByteArray×(List zG)))
  deriving Inhabited,DecidableEq
structure zP where
  Rule:Int
  Doubts:(List Int)
  deriving Inhabited,DecidableEq
structure zM where
  whole:Int
  speed:zA
  deriving Inhabited,DecidableEq
def zM.cells (x:zM):List Value:=[.int .i64 x.whole,.int .i64 x.speed.Lo,.int .i64 x.speed.Hi]
theorem zM.cells_len (x:zM):(zM.cells x).length=3:=rfl
structure zF where
  Whole:(Int×Int)
  Speed:zA
  deriving Inhabited,DecidableEq
def zF.cells (x:zF):List Value:=[.int .i64 x.Whole.1,.int .i64 x.Whole.2,.int .i64 x.Speed.Lo,.int .i64 x.Speed.Hi]
theorem zF.cells_len (x:zF):(zF.cells x).length=4:=rfl
structure zE where
  ray:Int
  gate:Int
  deriving Inhabited,DecidableEq
def zE.cells (x:zE):List Value:=[.int .i64 x.ray,.int .i64 x.gate]
theorem zE.cells_len (x:zE):(zE.cells x).length=2:=rfl
structure zL where
  to:zE
  most:Int
  deriving Inhabited,DecidableEq
def zL.cells (x:zL):List Value:=[.int .i64 x.to.ray,.int .i64 x.to.gate,.int .i64 x.most]
theorem zL.cells_len (x:zL):(zL.cells x).length=3:=rfl
structure zS where
  sets:(List (List (List zA)))
  bonds:(List (zE×(List zL)))
  deriving Inhabited,DecidableEq
structure zK where
  State:Int
  Guesses:(List zF)
  deriving Inhabited,DecidableEq
abbrev zB.ar (x:zB):Array Value:=#[.string x.s,.int .i64 x.at_,.string x.token,.int .i64 x.from_]
abbrev zH.ar (x:zH):Array Value:=#[.int .i64 x.Lambda,.int .i64 x.Kind,.int .i64 x.First,.int .i64 x.Second,.int .i64 x.Count]
abbrev zH.ag (x:zH):Value:=.agg #[.int .i64 x.Lambda,.int .i64 x.Kind,.int .i64 x.First,.int .i64 x.Second,.int .i64 x.Count]
abbrev zV.ar (x:zV):Array Value:=#[.int .i64 x.Level,.int .i64 x.Phase,.int .i64 x.Noise.Lo,.int .i64 x.Noise.Hi]
abbrev zV.ag (x:zV):Value:=.agg #[.int .i64 x.Level,.int .i64 x.Phase,.int .i64 x.Noise.Lo,.int .i64 x.Noise.Hi]
abbrev zQ.ar (x:zQ):Array Value:=#[.int .i64 x.H,.int .i64 x.P,.int .i64 x.V,.int .i64 x.Q]
abbrev zQ.ag (x:zQ):Value:=.agg #[.int .i64 x.H,.int .i64 x.P,.int .i64 x.V,.int .i64 x.Q]
abbrev zT.ar (x:zT):Array Value:=#[.int .i64 x.base,.int .i64 x.width,.int .i64 x.sum,.int .i64 x.count]
abbrev zT.ag (x:zT):Value:=.agg #[.int .i64 x.base,.int .i64 x.width,.int .i64 x.sum,.int .i64 x.count]
abbrev zD.ar (x:zD):Array Value:=#[.int .i64 x.Kind,.int .i64 x.Power.Lo,.int .i64 x.Power.Hi,.int .i64 x.Steps.1.Lo,.int .i64 x.Steps.1.Hi,.int .i64 x.Steps.2.Lo,.int .i64 x.Steps.2.Hi,.int .i64 x.Spread,.int .i64 x.Ratio.Lo,.int .i64 x.Ratio.Hi,.int .i64 x.Match.Lo,.int .i64 x.Match.Hi,.int .i64 x.Turn.Lo,.int .i64 x.Turn.Hi]
abbrev zD.ag (x:zD):Value:=.agg #[.int .i64 x.Kind,.int .i64 x.Power.Lo,.int .i64 x.Power.Hi,.int .i64 x.Steps.1.Lo,.int .i64 x.Steps.1.Hi,.int .i64 x.Steps.2.Lo,.int .i64 x.Steps.2.Hi,.int .i64 x.Spread,.int .i64 x.Ratio.Lo,.int .i64 x.Ratio.Hi,.int .i64 x.Match.Lo,.int .i64 x.Match.Hi,.int .i64 x.Turn.Lo,.int .i64 x.Turn.Hi]
abbrev zX.ar (x:zX):Array Value:=#[.string x.Name,.int .i64 x.X,.int .i64 x.Y,.int .i64 x.Z,.int .i64 x.Rose,.int .i64 x.Gates,.int .i64 x.Step,.int .i64 x.Width]
abbrev zX.ag (x:zX):Value:=.agg #[.string x.Name,.int .i64 x.X,.int .i64 x.Y,.int .i64 x.Z,.int .i64 x.Rose,.int .i64 x.Gates,.int .i64 x.Step,.int .i64 x.Width]
abbrev zG.ag (x:zG):Value:=.agg #[.int .i64 x.span.Lo,.int .i64 x.span.Hi,.bool x.has]
abbrev zM.ar (x:zM):Array Value:=#[.int .i64 x.whole,.int .i64 x.speed.Lo,.int .i64 x.speed.Hi]
abbrev zM.ag (x:zM):Value:=.agg #[.int .i64 x.whole,.int .i64 x.speed.Lo,.int .i64 x.speed.Hi]
abbrev zF.ar (x:zF):Array Value:=#[.int .i64 x.Whole.1,.int .i64 x.Whole.2,.int .i64 x.Speed.Lo,.int .i64 x.Speed.Hi]
abbrev zF.ag (x:zF):Value:=.agg #[.int .i64 x.Whole.1,.int .i64 x.Whole.2,.int .i64 x.Speed.Lo,.int .i64 x.Speed.Hi]
abbrev zL.ar (x:zL):Array Value:=#[.int .i64 x.to.ray,.int .i64 x.to.gate,.int .i64 x.most]
abbrev zL.ag (x:zL):Value:=.agg #[.int .i64 x.to.ray,.int .i64 x.to.gate,.int .i64 x.most]
abbrev zU.ax (x:zU) (adg1_:Option Addr) (capg2_:Nat) (adg3_:Option Addr) (capg4_:Nat) (adg5_:Option Addr) (capg6_:Nat):Array Value:=#[.int .u8 x.Air.Kind,.int .u8 x.Air.Lambda,.int .u8 x.Air.First,.int .u8 x.Air.Second,.int .u8 x.Air.Count,.int .u8 x.Air.Gates,.int .i16 x.Air.Base,.slice adg1_ x.Air.Speeds.length capg2_,.int .u16 x.Air.Jump,.int .u8 x.Air.Slip,.slice adg3_ x.Air.Slips.length capg4_,.slice adg5_ x.Air.Loud.length capg6_,.int .u8 x.Rules,.int .u16 x.Weak,.int .u8 x.Far]
abbrev zN.ax (x:zN) (adg1_:Option Addr) (capg2_ mg4_ mg5_:Nat):Array Value:=#[.string x.s.Site.Name,.int .i64 x.s.Site.X,.int .i64 x.s.Site.Y,.int .i64 x.s.Site.Z,.int .i64 x.s.Site.Rose,.int .i64 x.s.Site.Gates,.int .i64 x.s.Site.Step,.int .i64 x.s.Site.Width,.int .i64 x.s.Tilt,.int .i64 x.s.Time,.slice adg1_ x.s.Rays.length capg2_,.int .i64 x.n,.map (some mg4_),.map (some mg5_)]
abbrev zW.ax (x:zW) (adg1_:Option Addr) (capg2_:Nat) (adg3_:Option Addr) (capg4_:Nat) (adg5_:Option Addr) (capg6_:Nat):Array Value:=#[.int .u8 x.Kind,.int .u8 x.Lambda,.int .u8 x.First,.int .u8 x.Second,.int .u8 x.Count,.int .u8 x.Gates,.int .i16 x.Base,.slice adg1_ x.Speeds.length capg2_,.int .u16 x.Jump,.int .u8 x.Slip,.slice adg3_ x.Slips.length capg4_,.slice adg5_ x.Loud.length capg6_]
abbrev zJ.ax (x:zJ) (adg1_:Option Addr) (capg2_:Nat):Array Value:=#[.string x.Site.Name,.int .i64 x.Site.X,.int .i64 x.Site.Y,.int .i64 x.Site.Z,.int .i64 x.Site.Rose,.int .i64 x.Site.Gates,.int .i64 x.Site.Step,.int .i64 x.Site.Width,.int .i64 x.Tilt,.int .i64 x.Time,.slice adg1_ x.Rays.length capg2_]
abbrev zR.ax (x:zR) (adg1_:Option Addr) (capg2_:Nat):Array Value:=#[.string x.Name,.int .i64 x.When.Op,.int .i64 x.When.Value_,.int .i64 x.When.Rays,.int .i64 x.When.Gates,.slice adg1_ x.When.Args.length capg2_]
abbrev zC.ax (x:zC) (adg1_:Option Addr) (capg2_:Nat):Array Value:=#[.int .i64 x.Op,.int .i64 x.Value_,.int .i64 x.Rays,.int .i64 x.Gates,.slice adg1_ x.Args.length capg2_]
abbrev zB.e0 (x:zB):Bool:=((x.s==ByteArray.empty)&&(((x.at_:Int)==0)&&((x.token==ByteArray.empty)&&(((x.from_:Int)==0)&&true))))
abbrev zH.e0 (x:zH):Bool:=(((x.Lambda:Int)==0)&&(((x.Kind:Int)==0)&&(((x.First:Int)==0)&&(((x.Second:Int)==0)&&(((x.Count:Int)==0)&&true)))))
abbrev zV.e0 (x:zV):Bool:=(((x.Level:Int)==0)&&(((x.Phase:Int)==0)&&(((x.Noise.Lo:Int)==0)&&(((x.Noise.Hi:Int)==0)&&true))))
abbrev zQ.e0 (x:zQ):Bool:=(((x.H:Int)==0)&&(((x.P:Int)==0)&&(((x.V:Int)==0)&&(((x.Q:Int)==0)&&true))))
abbrev zT.e0 (x:zT):Bool:=(((x.base:Int)==0)&&(((x.width:Int)==0)&&(((x.sum:Int)==0)&&(((x.count:Int)==0)&&true))))
abbrev zD.e0 (x:zD):Bool:=(((x.Kind:Int)==0)&&(((x.Power.Lo:Int)==0)&&(((x.Power.Hi:Int)==0)&&(((x.Steps.1.Lo:Int)==0)&&(((x.Steps.1.Hi:Int)==0)&&(((x.Steps.2.Lo:Int)==0)&&(((x.Steps.2.Hi:Int)==0)&&(((x.Spread:Int)==0)&&(((x.Ratio.Lo:Int)==0)&&(((x.Ratio.Hi:Int)==0)&&(((x.Match.Lo:Int)==0)&&(((x.Match.Hi:Int)==0)&&(((x.Turn.Lo:Int)==0)&&(((x.Turn.Hi:Int)==0)&&true))))))))))))))
abbrev zX.e0 (x:zX):Bool:=((x.Name==ByteArray.empty)&&(((x.X:Int)==0)&&(((x.Y:Int)==0)&&(((x.Z:Int)==0)&&(((x.Rose:Int)==0)&&(((x.Gates:Int)==0)&&(((x.Step:Int)==0)&&(((x.Width:Int)==0)&&true))))))))
abbrev zM.e0 (x:zM):Bool:=(((x.whole:Int)==0)&&(((x.speed.Lo:Int)==0)&&(((x.speed.Hi:Int)==0)&&true)))
abbrev zF.e0 (x:zF):Bool:=(((x.Whole.1:Int)==0)&&(((x.Whole.2:Int)==0)&&(((x.Speed.Lo:Int)==0)&&(((x.Speed.Hi:Int)==0)&&true))))
abbrev zL.e0 (x:zL):Bool:=(((x.to.ray:Int)==0)&&(((x.to.gate:Int)==0)&&(((x.most:Int)==0)&&true)))
abbrev z30:Array Value:=#[.int .u8 0,.int .u8 0,.int .u8 0,.int .u8 0,.int .u8 0,.int .u8 0,.int .i16 0,.slice none 0 0,.int .u16 0,.int .u8 0,.slice none 0 0,.slice none 0 0,.int .u8 0,.int .u16 0,.int .u8 0]
abbrev z66:Array Value:=#[.int .i64 0,.int .i64 0,.int .i64 0,.int .i64 0,.int .i64 0,.int .i64 0,.int .i64 0,.int .i64 0,.int .i64 0,.int .i64 0,.int .i64 0,.int .i64 0,.int .i64 0,.int .i64 0]
abbrev z28:Array Value:=#[.int .u8 0,.int .u8 0,.int .u8 0,.int .u8 0,.int .u8 0,.int .u8 0,.int .i16 0,.slice none 0 0,.int .u16 0,.int .u8 0,.slice none 0 0,.slice none 0 0]
abbrev z40:Array Value:=#[.string ByteArray.empty,.int .i64 0,.int .i64 0,.int .i64 0,.int .i64 0,.int .i64 0,.int .i64 0,.int .i64 0,.int .i64 0,.int .i64 0,.slice none 0 0]
abbrev z37:Array Value:=#[.string ByteArray.empty,.int .i64 0,.int .i64 0,.int .i64 0,.int .i64 0,.int .i64 0,.int .i64 0,.int .i64 0]
abbrev B9c:Array Value:=#[.string ByteArray.empty,.int .i64 0,.int .i64 0,.int .i64 0,.int .i64 0,.slice none 0 0]
abbrev z98:Array Value:=#[.int .i64 0,.int .i64 0,.int .i64 0,.int .i64 0,.slice none 0 0]
abbrev z49:Array Value:=#[.int .i64 0,.int .i64 0,.int .i64 0,.int .i64 0,.int .i64 0]
abbrev z86:Array Value:=#[.int .i64 0,.int .i64 0,.int .i64 0,.int .i64 0]
inductive Rp98:Frz->List Value->zC->Prop
  | mk_ {μ:Frz} {x:zC} (ad1:Option Addr) (cap2:Nat) (css3:List (List Value)):ArrM μ 5 (fN 5) ad1 cap2 css3->All2 (Rp98 μ) css3 x.Args->Rp98 μ [.int .i64 x.Op,.int .i64 x.Value_,.int .i64 x.Rays,.int .i64 x.Gates,.slice ad1 x.Args.length cap2] x
theorem Rp98.out {μ:Frz} {cs:List Value} {x:zC} (h:Rp98 μ cs x):∃(ad1:Option Addr) (cap2:Nat) (css3:List (List Value)),cs=[.int .i64 x.Op,.int .i64 x.Value_,.int .i64 x.Rays,.int .i64 x.Gates,.slice ad1 x.Args.length cap2]/\ArrQ μ 5 Rp98 ad1 cap2 css3 x.Args:=by
  cases h with
  | mk_ a b c h1 h2=>exact ⟨a,b,c,rfl,h1,h2⟩
theorem Rp98.in_ {μ:Frz} {cs:List Value} {x:zC} (h:∃(ad1:Option Addr) (cap2:Nat) (css3:List (List Value)),cs=[.int .i64 x.Op,.int .i64 x.Value_,.int .i64 x.Rays,.int .i64 x.Gates,.slice ad1 x.Args.length cap2]/\ArrQ μ 5 Rp98 ad1 cap2 css3 x.Args):Rp98 μ cs x:=by
  obtain ⟨a,b,c,rfl,h1,h2⟩:=h;exact .mk_ a b c h1 h2
theorem Rp98.mono_ {μ ν:Frz} (hle:μ.le ν):∀(x:zC) (cs:List Value),Rp98 μ cs x->Rp98 ν cs x
  | x,cs,h=>by
    obtain ⟨a,b,c,rfl,h1,h2⟩:=h.out;refine .mk_ a b c (h1.mono hle) ?_;have go:∀(m:List zC) (cs:List (List Value)),(∀y∈m,∀c,Rp98 μ c y->Rp98 ν c y)->All2 (Rp98 μ) cs m->All2 (Rp98 ν) cs m:=by
      intro m
      induction m with
      | nil=>intro cs _ h;cases h;exact .nil
      | cons y m ih=>intro cs hy h;cases h with|cons h3 h4=>exact .cons (hy y sm _ h3) (ih _ (λz hz=>hy z (by simp [hz])) h4)
    exact go _ c (λy hy c=>Rp98.mono_ hle y c) h2
termination_by x=>SizeOf.sizeOf x
decreasing_by
  have h9:=List.sizeOf_lt_of_mem hy
  cases x
  simp +arith at *;omega
theorem Rp98.mono:Rel.Mono Rp98:=λ_ _ cs x hle h=>Rp98.mono_ hle x cs h
instance:RM Rp98:=⟨Rp98.mono⟩
def Rp100:Rel zR:=fun μ cs x=>∃(ad1:Option Addr) (cap2:Nat) (css3:List (List Value)),cs=[.string x.Name,.int .i64 x.When.Op,.int .i64 x.When.Value_,.int .i64 x.When.Rays,.int .i64 x.When.Gates,.slice ad1 x.When.Args.length cap2]/\ArrQ μ 5 Rp98 ad1 cap2 css3 x.When.Args
theorem Rp100.mono:Rel.Mono Rp100:=by
  intro μ ν cs x hle h;obtain ⟨ad1,cap2,css3,rfl,f0⟩:=h;exact ⟨ad1,cap2,css3,rfl,f0.mono Rp98.mono hle⟩
instance:RM Rp100:=⟨Rp100.mono⟩
theorem Rp100.one:Rel.One 6 Rp100:=by
  intro μ cs x h;obtain ⟨ad1,cap2,css3,rfl,f0⟩:=h
  all_goals rfl
def Rp67:Rel (List zD):=fun μ cs x=>∃(ad1:Option Addr) (cap2:Nat),cs=[.slice ad1 x.length cap2]/\ArrM μ 14 zD.cells ad1 cap2 x
theorem Rp67.mono:Rel.Mono Rp67:=by
  intro μ ν cs x hle h;obtain ⟨ad1,cap2,rfl,f0⟩:=h;exact ⟨ad1,cap2,rfl,f0.mono hle⟩
instance:RM Rp67:=⟨Rp67.mono⟩
theorem Rp67.one:Rel.One 1 Rp67:=by
  intro μ cs x h;obtain ⟨ad1,cap2,rfl,f0⟩:=h
  all_goals rfl
def Rp137:Rel zN:=fun μ cs x=>∃(ad1:Option Addr) (cap2:Nat) (css3:List (List Value)) (m4 m5:Nat),cs=[.string x.s.Site.Name,.int .i64 x.s.Site.X,.int .i64 x.s.Site.Y,.int .i64 x.s.Site.Z,.int .i64 x.s.Site.Rose,.int .i64 x.s.Site.Gates,.int .i64 x.s.Site.Step,.int .i64 x.s.Site.Width,.int .i64 x.s.Tilt,.int .i64 x.s.Time,.slice ad1 x.s.Rays.length cap2,.int .i64 x.n,.map (some m4),.map (some m5)]/\ArrQ μ 1 Rp67 ad1 cap2 css3 x.s.Rays
theorem Rp137.mono:Rel.Mono Rp137:=by
  intro μ ν cs x hle h;obtain ⟨ad1,cap2,css3,m4,m5,rfl,f0⟩:=h;exact ⟨ad1,cap2,css3,m4,m5,rfl,f0.mono Rp67.mono hle⟩
instance:RM Rp137:=⟨Rp137.mono⟩
def Rp54:Rel (List Int):=fun μ cs x=>∃(ad1:Option Addr) (cap2:Nat),cs=[.slice ad1 x.length cap2]/\ArrM μ 1 fI ad1 cap2 x
theorem Rp54.mono:Rel.Mono Rp54:=by
  intro μ ν cs x hle h;obtain ⟨ad1,cap2,rfl,f0⟩:=h;exact ⟨ad1,cap2,rfl,f0.mono hle⟩
instance:RM Rp54:=⟨Rp54.mono⟩
theorem Rp54.one:Rel.One 1 Rp54:=by
  intro μ cs x h;obtain ⟨ad1,cap2,rfl,f0⟩:=h
  all_goals rfl
def Rp56:Rel zP:=fun μ cs x=>∃(ad1:Option Addr) (cap2:Nat),cs=[.int .i64 x.Rule,.slice ad1 x.Doubts.length cap2]/\ArrM μ 1 fI ad1 cap2 x.Doubts
theorem Rp56.mono:Rel.Mono Rp56:=by
  intro μ ν cs x hle h;obtain ⟨ad1,cap2,rfl,f0⟩:=h;exact ⟨ad1,cap2,rfl,f0.mono hle⟩
instance:RM Rp56:=⟨Rp56.mono⟩
theorem Rp56.one:Rel.One 2 Rp56:=by
  intro μ cs x h;obtain ⟨ad1,cap2,rfl,f0⟩:=h
  all_goals rfl
def Rp57:Rel (List zP):=fun μ cs x=>∃(ad1:Option Addr) (cap2:Nat) (css3:List (List Value)),cs=[.slice ad1 x.length cap2]/\ArrQ μ 2 Rp56 ad1 cap2 css3 x
theorem Rp57.mono:Rel.Mono Rp57:=by
  intro μ ν cs x hle h;obtain ⟨ad1,cap2,css3,rfl,f0⟩:=h;exact ⟨ad1,cap2,css3,rfl,f0.mono Rp56.mono hle⟩
instance:RM Rp57:=⟨Rp57.mono⟩
def Rp112:Rel (List zA):=fun μ cs x=>∃(ad1:Option Addr) (cap2:Nat),cs=[.slice ad1 x.length cap2]/\ArrM μ 2 zA.cells ad1 cap2 x
theorem Rp112.mono:Rel.Mono Rp112:=by
  intro μ ν cs x hle h;obtain ⟨ad1,cap2,rfl,f0⟩:=h;exact ⟨ad1,cap2,rfl,f0.mono hle⟩
instance:RM Rp112:=⟨Rp112.mono⟩
theorem Rp112.one:Rel.One 1 Rp112:=by
  intro μ cs x h;obtain ⟨ad1,cap2,rfl,f0⟩:=h
  all_goals rfl
def Rp107:Rel (List (List zA)):=fun μ cs x=>∃(ad1:Option Addr) (cap2:Nat) (css3:List (List Value)),cs=[.slice ad1 x.length cap2]/\ArrQ μ 1 Rp112 ad1 cap2 css3 x
theorem Rp107.mono:Rel.Mono Rp107:=by
  intro μ ν cs x hle h;obtain ⟨ad1,cap2,css3,rfl,f0⟩:=h;exact ⟨ad1,cap2,css3,rfl,f0.mono Rp112.mono hle⟩
instance:RM Rp107:=⟨Rp107.mono⟩
def Rp58:Rel (List zF):=fun μ cs x=>∃(ad1:Option Addr) (cap2:Nat),cs=[.slice ad1 x.length cap2]/\ArrM μ 4 zF.cells ad1 cap2 x
theorem Rp58.mono:Rel.Mono Rp58:=by
  intro μ ν cs x hle h;obtain ⟨ad1,cap2,rfl,f0⟩:=h;exact ⟨ad1,cap2,rfl,f0.mono hle⟩
instance:RM Rp58:=⟨Rp58.mono⟩
def Rp60:Rel zK:=fun μ cs x=>∃(ad1:Option Addr) (cap2:Nat),cs=[.int .i64 x.State,.slice ad1 x.Guesses.length cap2]/\ArrM μ 4 zF.cells ad1 cap2 x.Guesses
theorem Rp60.mono:Rel.Mono Rp60:=by
  intro μ ν cs x hle h;obtain ⟨ad1,cap2,rfl,f0⟩:=h;exact ⟨ad1,cap2,rfl,f0.mono hle⟩
instance:RM Rp60:=⟨Rp60.mono⟩
theorem Rp60.one:Rel.One 2 Rp60:=by
  intro μ cs x h;obtain ⟨ad1,cap2,rfl,f0⟩:=h
  all_goals rfl
def Rp61:Rel (List zK):=fun μ cs x=>∃(ad1:Option Addr) (cap2:Nat) (css3:List (List Value)),cs=[.slice ad1 x.length cap2]/\ArrQ μ 2 Rp60 ad1 cap2 css3 x
theorem Rp61.mono:Rel.Mono Rp61:=by
  intro μ ν cs x hle h;obtain ⟨ad1,cap2,css3,rfl,f0⟩:=h;exact ⟨ad1,cap2,css3,rfl,f0.mono Rp60.mono hle⟩
instance:RM Rp61:=⟨Rp61.mono⟩
def Nu (p0:ByteArray):Bool:=C02 p0
def Hs (p0:ByteArray) (p1:Int):Int:=Lib.indexByte p0.data.toList p1.toNat.toUInt8
def strings_Contains (F:Nat) (p0 p1:ByteArray):Option Bool:=match p1.data.toList with|[c]=>some (decide (0<=Lib.indexByte p0.data.toList c))|_=>none
def strconv_Itoa (F:Nat) (p0:Int):Option ByteArray:=if -9223372036854775808<=p0/\p0<=9223372036854775807 then some ⟨(Lib.itoa p0).toArray⟩ else none
def spB (s:zA):Prop:=-4000000000000000000<=s.Lo/\s.Lo<=4000000000000000000
instance (s:zA):Decidable (spB s):=by unfold spB;infer_instance
instance:Inhabited {s:zA // spB s}:=⟨⟨⟨0,0⟩,dc⟩⟩
def Rb (x y:{s:zA // spB s}):Int:=x.val.Lo-y.val.Lo
def Kf (F:Nat) (p0:List zA):Option (List zA):=if h:(∀s∈p0,spB s)/\p0.length<4611686018427387904 then some ((Z8 Rb (p0.pmap Subtype.mk h.1)).map Subtype.val) else none
def A0i (x:Int):List Int->List Int
  | []=>[x]
  | y::l=>bif decide (x<=y) then x::y::l else y::A0i x l
def sortI:List Int->List Int
  | []=>[]
  | x::l=>A0i x (sortI l)
def R7 (F:Nat) (p0:List Int):Option (List Int):=if p0.length<=1000000 then some (sortI p0) else none
def Xl:Int->List Int->List Int
  | _,[]=>[]
  | p,x::xs=>bif x==p then Xl x xs else x::Xl x xs
def S5:List Int->List Int
  | []=>[]
  | x::xs=>x::Xl x xs
def Q5 (F:Nat) (p0:List Int):Option (List Int):=if p0.length<=1000000 then some (S5 p0) else none
def T3 (p0:ByteArray):Option ByteArray:=some p0
def Mj (p0 p1:ByteArray) (k2:Int->Option ByteArray) (a0:Int):Option ByteArray:=bif (decide (a0<((p0.size:Nat):Int))) then ((Yn p0 a0).bind λa2=>bif (decide ((Hs p1 a2)<0)) then ((cutS p0 0 a0).bind λa1=>some a1) else ((ck (a0+1)).bind λa3=>k2 a3)) else (T3 p0)
def R1 (p0 p1:ByteArray):Nat->Int->Option ByteArray
  | 0,_=>none
  | n+1,a0=>Mj p0 p1 (R1 p0 p1 n) a0
def Gq (F:Nat) (p0 p1:ByteArray):Option ByteArray:=R1 p0 p1 F 0
def Hc (F:Nat) (p0:zB) (k1:Option zB):Option zB:=(cutS p0.s p0.at_ ((p0.s.size:Nat):Int)).bind λs6=>(Gq F s6 (⟨#[32,9,10,13]⟩:ByteArray)).bind λy7=>(ck (p0.at_+((y7.size:Nat):Int))).bind λx8=>(gd (((x8==((p0.s.size:Nat):Int))==false&&true)) (Yn p0.s x8) default).bind λu9=>bif (bif (x8==((p0.s.size:Nat):Int)) then true else (u9 != 35)) then (some (zB.mk p0.s x8 p0.token p0.from_)) else (none)
def He (F:Nat) (p0:zB):Nat->Option zB
  | 0=>none
  | n+1=>Hc F p0 (He F p0 n)
def D6 (F:Nat) (p0:zB):Option zB:=He F p0 F
def E3 (F:Nat) (p0 p1:ByteArray):Option Bool:=bif (decide (((p0.size:Nat):Int)>=((p1.size:Nat):Int))) then ((cutS p0 0 ((p1.size:Nat):Int)).bind λs2=>some (sEq s2 p1)) else (some false)
def Bj (F:Nat) (p0 p1:ByteArray):Option Bool:=(E3 F p0 p1).bind λy1=>some y1
def Aw (y4:zB) (a0:ByteArray):Option zB:=(ck (y4.at_+((a0.size:Nat):Int))).bind λa1=>some (zB.mk y4.s a1 a0 y4.at_)
def C4 (a0:zB) (a1:ByteArray):Option zB:=(ck (a0.at_+((a1.size:Nat):Int))).bind λa2=>some (zB.mk a0.s a2 a1 a0.at_)
def Ao (F:Nat) (p0:zB):Option zB:=bif (!(sEq p0.token (⟨#[]⟩:ByteArray))) then ((cutS p0.token 0 1).bind λs2=>(strings_Contains F (⟨#[48,49,50,51,52,53,54,55,56,57]⟩:ByteArray) s2).bind λy3=>(D6 F p0).bind λy4=>(cutS y4.s y4.at_ ((y4.s.size:Nat):Int)).bind λs8=>bif (sEq s8 (⟨#[]⟩:ByteArray)) then (Aw y4 (⟨#[]⟩:ByteArray)) else (bif y3 then (bif (y4.at_==p0.at_) then ((cutS s8 0 1).bind λaI=>(strings_Contains F (⟨#[97,98,99,100,101,102,103,104,105,106,107,108,109,110,111,112,113,114,115,116,117,118,119,120,121,122,48,49,50,51,52,53,54,55,56,57]⟩:ByteArray) aI).bind λb7=>bif b7 then (Aw y4 (⟨#[]⟩:ByteArray)) else ((cutS s8 0 1).bind λaJ=>(strings_Contains F (⟨#[97,98,99,100,101,102,103,104,105,106,107,108,109,110,111,112,113,114,115,116,117,118,119,120,121,122]⟩:ByteArray) aJ).bind λb8=>bif b8 then ((Gq F s8 (⟨#[97,98,99,100,101,102,103,104,105,106,107,108,109,110,111,112,113,114,115,116,117,118,119,120,121,122,48,49,50,51,52,53,54,55,56,57,95]⟩:ByteArray)).bind λb9=>Aw y4 b9) else ((Yn s8 (0:Int)).bind λaW=>bif (aW==48) then (Aw y4 (⟨#[48]⟩:ByteArray)) else ((cutS s8 0 1).bind λaK=>(strings_Contains F (⟨#[48,49,50,51,52,53,54,55,56,57]⟩:ByteArray) aK).bind λbA=>bif bA then ((Gq F s8 (⟨#[48,49,50,51,52,53,54,55,56,57]⟩:ByteArray)).bind λbB=>Aw y4 bB) else ((Bj F s8 (⟨#[60,61]⟩:ByteArray)).bind λa3=>(gd ((a3==false&&true)) (Bj F s8 (⟨#[62,61]⟩:ByteArray)) default).bind λa8=>(gd (((bif a3 then true else a8)==false&&true)) (Bj F s8 (⟨#[33,61]⟩:ByteArray)) default).bind λbC=>bif (bif (bif a3 then true else a8) then true else bC) then ((cutS s8 0 2).bind λaL=>Aw y4 aL) else ((cutS s8 0 1).bind λaM=>(strings_Contains F (⟨#[60,62,61,43,45,40,41,58,59]⟩:ByteArray) aM).bind λbD=>bif bD then ((cutS s8 0 1).bind λaN=>Aw y4 aN) else (Aw y4 (⟨#[]⟩:ByteArray)))))))) else ((cutS s8 0 1).bind λaO=>(strings_Contains F (⟨#[97,98,99,100,101,102,103,104,105,106,107,108,109,110,111,112,113,114,115,116,117,118,119,120,121,122]⟩:ByteArray) aO).bind λbE=>bif bE then ((Gq F s8 (⟨#[97,98,99,100,101,102,103,104,105,106,107,108,109,110,111,112,113,114,115,116,117,118,119,120,121,122,48,49,50,51,52,53,54,55,56,57,95]⟩:ByteArray)).bind λbF=>Aw y4 bF) else ((Yn s8 (0:Int)).bind λaX=>bif (aX==48) then (Aw y4 (⟨#[48]⟩:ByteArray)) else ((cutS s8 0 1).bind λaP=>(strings_Contains F (⟨#[48,49,50,51,52,53,54,55,56,57]⟩:ByteArray) aP).bind λbG=>bif bG then ((Gq F s8 (⟨#[48,49,50,51,52,53,54,55,56,57]⟩:ByteArray)).bind λbH=>Aw y4 bH) else ((Bj F s8 (⟨#[60,61]⟩:ByteArray)).bind λa4=>(gd ((a4==false&&true)) (Bj F s8 (⟨#[62,61]⟩:ByteArray)) default).bind λa9=>(gd (((bif a4 then true else a9)==false&&true)) (Bj F s8 (⟨#[33,61]⟩:ByteArray)) default).bind λbI=>bif (bif (bif a4 then true else a9) then true else bI) then ((cutS s8 0 2).bind λaQ=>Aw y4 aQ) else ((cutS s8 0 1).bind λaR=>(strings_Contains F (⟨#[60,62,61,43,45,40,41,58,59]⟩:ByteArray) aR).bind λbJ=>bif bJ then ((cutS s8 0 1).bind λaS=>Aw y4 aS) else (Aw y4 (⟨#[]⟩:ByteArray)))))))) else ((cutS s8 0 1).bind λaT=>(strings_Contains F (⟨#[97,98,99,100,101,102,103,104,105,106,107,108,109,110,111,112,113,114,115,116,117,118,119,120,121,122]⟩:ByteArray) aT).bind λbK=>bif bK then ((Gq F s8 (⟨#[97,98,99,100,101,102,103,104,105,106,107,108,109,110,111,112,113,114,115,116,117,118,119,120,121,122,48,49,50,51,52,53,54,55,56,57,95]⟩:ByteArray)).bind λbL=>Aw y4 bL) else ((Yn s8 (0:Int)).bind λaY=>bif (aY==48) then (Aw y4 (⟨#[48]⟩:ByteArray)) else ((cutS s8 0 1).bind λaU=>(strings_Contains F (⟨#[48,49,50,51,52,53,54,55,56,57]⟩:ByteArray) aU).bind λbM=>bif bM then ((Gq F s8 (⟨#[48,49,50,51,52,53,54,55,56,57]⟩:ByteArray)).bind λbN=>Aw y4 bN) else ((Bj F s8 (⟨#[60,61]⟩:ByteArray)).bind λa5=>(gd ((a5==false&&true)) (Bj F s8 (⟨#[62,61]⟩:ByteArray)) default).bind λa6=>(gd (((bif a5 then true else a6)==false&&true)) (Bj F s8 (⟨#[33,61]⟩:ByteArray)) default).bind λaZ=>bif (bif (bif a5 then true else a6) then true else aZ) then ((cutS s8 0 2).bind λaA=>Aw y4 aA) else ((cutS s8 0 1).bind λaB=>(strings_Contains F (⟨#[60,62,61,43,45,40,41,58,59]⟩:ByteArray) aB).bind λb0=>bif b0 then ((cutS s8 0 1).bind λaC=>Aw y4 aC) else (Aw y4 (⟨#[]⟩:ByteArray))))))))) else ((D6 F p0).bind λa1=>(cutS a1.s a1.at_ ((a1.s.size:Nat):Int)).bind λa0=>bif (sEq a0 (⟨#[]⟩:ByteArray)) then (C4 a1 (⟨#[]⟩:ByteArray)) else ((cutS a0 0 1).bind λaD=>(strings_Contains F (⟨#[97,98,99,100,101,102,103,104,105,106,107,108,109,110,111,112,113,114,115,116,117,118,119,120,121,122]⟩:ByteArray) aD).bind λb1=>bif b1 then ((Gq F a0 (⟨#[97,98,99,100,101,102,103,104,105,106,107,108,109,110,111,112,113,114,115,116,117,118,119,120,121,122,48,49,50,51,52,53,54,55,56,57,95]⟩:ByteArray)).bind λb2=>C4 a1 b2) else ((Yn a0 (0:Int)).bind λaV=>bif (aV==48) then (C4 a1 (⟨#[48]⟩:ByteArray)) else ((cutS a0 0 1).bind λaE=>(strings_Contains F (⟨#[48,49,50,51,52,53,54,55,56,57]⟩:ByteArray) aE).bind λb3=>bif b3 then ((Gq F a0 (⟨#[48,49,50,51,52,53,54,55,56,57]⟩:ByteArray)).bind λb4=>C4 a1 b4) else ((Bj F a0 (⟨#[60,61]⟩:ByteArray)).bind λa2=>(gd ((a2==false&&true)) (Bj F a0 (⟨#[62,61]⟩:ByteArray)) default).bind λa7=>(gd (((bif a2 then true else a7)==false&&true)) (Bj F a0 (⟨#[33,61]⟩:ByteArray)) default).bind λb5=>bif (bif (bif a2 then true else a7) then true else b5) then ((cutS a0 0 2).bind λaF=>C4 a1 aF) else ((cutS a0 0 1).bind λaG=>(strings_Contains F (⟨#[60,62,61,43,45,40,41,58,59]⟩:ByteArray) aG).bind λb6=>bif b6 then ((cutS a0 0 1).bind λaH=>C4 a1 aH) else (C4 a1 (⟨#[]⟩:ByteArray))))))))
def Cf:(Ts ByteArray 28):=(⟨[(⟨#[]⟩:ByteArray),(⟨#[116,114,117,101]⟩:ByteArray),(⟨#[102,97,108,115,101]⟩:ByteArray),(⟨#[110,111,116]⟩:ByteArray),(⟨#[97,110,100]⟩:ByteArray),(⟨#[111,114]⟩:ByteArray),(⟨#[115,111,109,101]⟩:ByteArray),(⟨#[97,108,108]⟩:ByteArray),(⟨#[60]⟩:ByteArray),(⟨#[60,61]⟩:ByteArray),(⟨#[62]⟩:ByteArray),(⟨#[62,61]⟩:ByteArray),(⟨#[61]⟩:ByteArray),(⟨#[33,61]⟩:ByteArray),(⟨#[]⟩:ByteArray),(⟨#[112,111,119,101,114]⟩:ByteArray),(⟨#[114,97,116,105,111]⟩:ByteArray),(⟨#[109,97,116,99,104]⟩:ByteArray),(⟨#[115,112,114,101,97,100]⟩:ByteArray),(⟨#[116,117,114,110]⟩:ByteArray),(⟨#[115,116,101,112]⟩:ByteArray),(⟨#[107,105,110,100]⟩:ByteArray),(⟨#[114,97,121]⟩:ByteArray),(⟨#[103,97,116,101]⟩:ByteArray),(⟨#[116,105,108,116]⟩:ByteArray),(⟨#[99,111,117,110,116]⟩:ByteArray),(⟨#[43]⟩:ByteArray),(⟨#[45]⟩:ByteArray)],rfl⟩:Ts ByteArray 28)
def Hk:Option Int:=some (-1)
def D9 (p0:List ByteArray) (p1:ByteArray) (k2:Int->Option Int) (a0:Int):Option Int:=bif (decide (a0<(p0.length:Int))) then ((Av p0 a0).bind λa1=>bif (sEq p1 a1) then (some a0) else ((ck (a0+1)).bind λa2=>k2 a2)) else (Hk)
def Cr (p0:List ByteArray) (p1:ByteArray):Nat->Int->Option Int
  | 0,_=>none
  | n+1,a0=>D9 p0 p1 (Cr p0 p1 n) a0
def G5 (F:Nat) (p0:List ByteArray) (p1:ByteArray):Option Int:=Cr p0 p1 F 0
def Hr (F:Nat) (p0:ByteArray) (p1 p2:Int):Option Int:=(ck (p2+1)).bind λx2=>(Sx Cf.1 p1 x2).bind λl3=>(G5 F l3 p0).bind λy4=>bif (bif (decide (y4>=0)) then (!(sEq p0 (⟨#[]⟩:ByteArray))) else false) then ((ck (p1+y4)).bind λx5=>some x5) else (some 0)
def sift_word (F:Nat) (p0:ByteArray):Option Bool:=(Hr F p0 1 7).bind λy1=>(gd (((decide (y1>0))==false&&true)) (Hr F p0 15 25) default).bind λy2=>some (bif (decide (y1>0)) then true else (decide (y2>0)))
def Dp (F:Nat) (p0:zB):Option (Except (Value×zB) zB):=none
def Dq (F:Nat) (p0:zB) (p1:ByteArray):Option (Bool×zB):=bif (!(sEq p0.token p1)) then (some (false,p0)) else ((Ao F p0).bind λy1=>some (true,y1))
def Er (F:Nat) (p0:zB) (p1:ByteArray):Option (Except (Value×zB) zB):=(Dq F p0 p1).bind λy1=>bif (!y1.1) then ((Dp F (zB.mk y1.2.s y1.2.at_ y1.2.token y1.2.from_)).bind λy5=>exc y5 (λe7=>some (.error (e7.1,(zB.mk e7.2.s e7.2.at_ e7.2.token e7.2.from_)))) λy6=>some (.ok y6)) else (some (.ok (zB.mk y1.2.s y1.2.at_ y1.2.token y1.2.from_)))
def Jf (F:Nat) (a0:ByteArray) (a2:Int) (a1:ByteArray) (a3 a4:Int):Option (Except (Value×zB) (Int×zB)):=(Ao F (zB.mk a0 a2 a1 a3)).bind λa5=>some (.ok (a4,a5))
def Fs (a2:Int) (k3:ByteArray->Int->ByteArray->Int->Int->Int->Option (Except (Value×zB) (Int×zB))) (a0:ByteArray) (a3:Int) (a1:ByteArray) (a4 a5:Int):Option (Except (Value×zB) (Int×zB)):=(ck (a2+1)).bind λa6=>k3 a0 a3 a1 a4 a6 a5
def Fq (F:Nat) (p1:Int) (a8:List Int) (k3:ByteArray->Int->ByteArray->Int->Int->Int->Option (Except (Value×zB) (Int×zB))) (a3:ByteArray) (a5:Int) (a4:ByteArray) (a6 a1 a9:Int):Option (Except (Value×zB) (Int×zB)):=bif (decide (a1<(a8.length:Int))) then ((Av a8 a1).bind λaA=>(ck (10*a9)).bind λaB=>(ck (IntKind.u8.wrap (aA-48))).bind λaC=>(ck (aB+aC)).bind λa7=>bif (decide (a7>p1)) then ((Dp F (zB.mk a3 a5 a4 a6)).bind λaD=>exc aD (λa0=>some (.error (a0.1,(zB.mk a0.2.s a0.2.at_ a0.2.token a0.2.from_)))) λa2=>Fs a1 k3 a2.s a2.at_ a2.token a2.from_ a7) else (Fs a1 k3 a3 a5 a4 a6 a7)) else (Jf F a3 a5 a4 a6 a9)
def Ft (F:Nat) (p1:Int) (a0:List Int):Nat->ByteArray->Int->ByteArray->Int->Int->Int->Option (Except (Value×zB) (Int×zB))
  | 0,_,_,_,_,_,_=>none
  | n+1,a1,a3,a2,a4,a5,a6=>Fq F p1 a0 (Ft F p1 a0 n) a1 a3 a2 a4 a5 a6
def E5 (F:Nat) (p1:Int) (a2:ByteArray) (a3:Int) (a0:ByteArray) (a4:Int):Option (Except (Value×zB) (Int×zB)):=(s2b a0).bind λa1=>Ft F p1 a1 F a2 a3 a0 a4 0 0
def Eg (F:Nat) (p0:zB) (p1:Int):Option (Except (Value×zB) (Int×zB)):=bif (sEq p0.token (⟨#[]⟩:ByteArray)) then ((Dp F p0).bind λa5=>exc a5 (λa0=>some (.error (a0.1,(zB.mk a0.2.s a0.2.at_ a0.2.token a0.2.from_)))) λa2=>E5 F p1 a2.s a2.at_ a2.token a2.from_) else ((cutS p0.token 0 1).bind λa4=>(strings_Contains F (⟨#[48,49,50,51,52,53,54,55,56,57]⟩:ByteArray) a4).bind λa6=>bif (!a6) then ((Dp F p0).bind λa7=>exc a7 (λa1=>some (.error (a1.1,(zB.mk a1.2.s a1.2.at_ a1.2.token a1.2.from_)))) λa3=>E5 F p1 a3.s a3.at_ a3.token a3.from_) else (E5 F p1 p0.s p0.at_ p0.token p0.from_))
abbrev Ah:=zB->Option (Except (Value×zB) (zC×zB))
def Dc (F:Nat) (s78_:Ah) (a5 a6 a7 a8:Int) (a2:List zC) (a3:ByteArray) (a9:Int) (a4:ByteArray) (aA:Int) (k1:Int->Int->Int->Int->List zC->ByteArray->Int->ByteArray->Int->Option (Except (Value×zB) (zC×zB))) (aB:Int):Option (Except (Value×zB) (zC×zB)):=bif (aB==0) then (some (.ok ((zC.mk a5 a6 a7 a8 a2),(zB.mk a3 a9 a4 aA)))) else ((Ao F (zB.mk a3 a9 a4 aA)).bind λaC=>(s78_ aC).bind λaD=>exc aD (λa1=>some (.error (a1.1,(zB.mk a1.2.s a1.2.at_ a1.2.token a1.2.from_)))) λa0=>k1 aB 0 0 0 ([(zC.mk a5 a6 a7 a8 a2),(zC.mk a0.1.Op a0.1.Value_ a0.1.Rays a0.1.Gates a0.1.Args)]) a0.2.s a0.2.at_ a0.2.token a0.2.from_)
def Ec (a0:Int) (k3:Int->Int->Option (Except (Value×zB) (zC×zB))) (a1:Int):Option (Except (Value×zB) (zC×zB)):=(ck (a0+1)).bind λa2=>k3 a2 a1
def Cv (F:Nat) (s78_:Ah) (p2:List Int) (a7 a8 a9 aA:Int) (a4:List zC) (a5:ByteArray) (aB:Int) (a1:ByteArray) (aC:Int) (k1:Int->Int->Int->Int->List zC->ByteArray->Int->ByteArray->Int->Option (Except (Value×zB) (zC×zB))) (k3:Int->Int->Option (Except (Value×zB) (zC×zB))) (a0 a3:Int):Option (Except (Value×zB) (zC×zB)):=bif (decide (a0<(p2.length:Int))) then ((Av p2 a0).bind λa2=>(A4u Cf a2).bind λa6=>bif (sEq a1 a6) then (Ec a0 k3 a2) else (Ec a0 k3 a3)) else (Dc F s78_ a7 a8 a9 aA a4 a5 aB a1 aC k1 a3)
def B5 (F:Nat) (s78_:Ah) (p2:List Int) (a3 a4 a5 a6:Int) (a0:List zC) (a1:ByteArray) (a7:Int) (a2:ByteArray) (a8:Int) (k1:Int->Int->Int->Int->List zC->ByteArray->Int->ByteArray->Int->Option (Except (Value×zB) (zC×zB))):Nat->Int->Int->Option (Except (Value×zB) (zC×zB))
  | 0,_,_=>none
  | n+1,a9,aA=>Cv F s78_ p2 a3 a4 a5 a6 a0 a1 a7 a2 a8 k1 (B5 F s78_ p2 a3 a4 a5 a6 a0 a1 a7 a2 a8 k1 n) a9 aA
def Eb (F:Nat) (s78_:Ah) (p2:List Int) (k1:Int->Int->Int->Int->List zC->ByteArray->Int->ByteArray->Int->Option (Except (Value×zB) (zC×zB))) (a3 a4 a5 a6:Int) (a0:List zC) (a1:ByteArray) (a7:Int) (a2:ByteArray) (a8:Int):Option (Except (Value×zB) (zC×zB)):=B5 F s78_ p2 a3 a4 a5 a6 a0 a1 a7 a2 a8 k1 F 0 0
def Bn (F:Nat) (s78_:Ah) (p2:List Int):Nat->Int->Int->Int->Int->List zC->ByteArray->Int->ByteArray->Int->Option (Except (Value×zB) (zC×zB))
  | 0,_,_,_,_,_,_,_,_,_=>none
  | n+1,a3,a4,a5,a6,a0,a1,a7,a2,a8=>Eb F s78_ p2 (Bn F s78_ p2 n) a3 a4 a5 a6 a0 a1 a7 a2 a8
def By (F:Nat) (s78_:Ah) (p0:zB) (p2:List Int):Option (Except (Value×zB) (zC×zB)):=(s78_ p0).bind λy5=>exc y5 (λe7=>some (.error (e7.1,(zB.mk e7.2.s e7.2.at_ e7.2.token e7.2.from_)))) λy6=>Bn F s78_ p2 F y6.1.Op y6.1.Value_ y6.1.Rays y6.1.Gates y6.1.Args y6.2.s y6.2.at_ y6.2.token y6.2.from_
def Az (F:Nat) (s78_:Ah) (c0_:zB):Option (Except (Value×zB) (zC×zB)):=(By F s78_ c0_ ([4])).bind λy7=>exc y7 (λe9=>some (.error (e9.1,(zB.mk e9.2.s e9.2.at_ e9.2.token e9.2.from_)))) λy8=>some (.ok ((zC.mk y8.1.Op y8.1.Value_ y8.1.Rays y8.1.Gates y8.1.Args),(zB.mk y8.2.s y8.2.at_ y8.2.token y8.2.from_)))
def Kk (F:Nat) (s78_:Ah) (a5 a6 a7 a8:Int) (a2:List zC) (a3:ByteArray) (a9:Int) (a4:ByteArray) (aA:Int) (k1:Int->Int->Int->Int->List zC->ByteArray->Int->ByteArray->Int->Option (Except (Value×zB) (zC×zB))) (aB:Int):Option (Except (Value×zB) (zC×zB)):=bif (aB==0) then (some (.ok ((zC.mk a5 a6 a7 a8 a2),(zB.mk a3 a9 a4 aA)))) else ((Ao F (zB.mk a3 a9 a4 aA)).bind λaC=>(Az F s78_ aC).bind λaD=>exc aD (λa1=>some (.error (a1.1,(zB.mk a1.2.s a1.2.at_ a1.2.token a1.2.from_)))) λa0=>k1 aB 0 0 0 ([(zC.mk a5 a6 a7 a8 a2),(zC.mk a0.1.Op a0.1.Value_ a0.1.Rays a0.1.Gates a0.1.Args)]) a0.2.s a0.2.at_ a0.2.token a0.2.from_)
def Gg (a0:Int) (k3:Int->Int->Option (Except (Value×zB) (zC×zB))) (a1:Int):Option (Except (Value×zB) (zC×zB)):=(ck (a0+1)).bind λa2=>k3 a2 a1
def Gf (F:Nat) (s78_:Ah) (p2:List Int) (a7 a8 a9 aA:Int) (a4:List zC) (a5:ByteArray) (aB:Int) (a1:ByteArray) (aC:Int) (k1:Int->Int->Int->Int->List zC->ByteArray->Int->ByteArray->Int->Option (Except (Value×zB) (zC×zB))) (k3:Int->Int->Option (Except (Value×zB) (zC×zB))) (a0 a3:Int):Option (Except (Value×zB) (zC×zB)):=bif (decide (a0<(p2.length:Int))) then ((Av p2 a0).bind λa2=>(A4u Cf a2).bind λa6=>bif (sEq a1 a6) then (Gg a0 k3 a2) else (Gg a0 k3 a3)) else (Kk F s78_ a7 a8 a9 aA a4 a5 aB a1 aC k1 a3)
def Cu (F:Nat) (s78_:Ah) (p2:List Int) (a3 a4 a5 a6:Int) (a0:List zC) (a1:ByteArray) (a7:Int) (a2:ByteArray) (a8:Int) (k1:Int->Int->Int->Int->List zC->ByteArray->Int->ByteArray->Int->Option (Except (Value×zB) (zC×zB))):Nat->Int->Int->Option (Except (Value×zB) (zC×zB))
  | 0,_,_=>none
  | n+1,a9,aA=>Gf F s78_ p2 a3 a4 a5 a6 a0 a1 a7 a2 a8 k1 (Cu F s78_ p2 a3 a4 a5 a6 a0 a1 a7 a2 a8 k1 n) a9 aA
def Ge (F:Nat) (s78_:Ah) (p2:List Int) (k1:Int->Int->Int->Int->List zC->ByteArray->Int->ByteArray->Int->Option (Except (Value×zB) (zC×zB))) (a3 a4 a5 a6:Int) (a0:List zC) (a1:ByteArray) (a7:Int) (a2:ByteArray) (a8:Int):Option (Except (Value×zB) (zC×zB)):=Cu F s78_ p2 a3 a4 a5 a6 a0 a1 a7 a2 a8 k1 F 0 0
def Db (F:Nat) (s78_:Ah) (p2:List Int):Nat->Int->Int->Int->Int->List zC->ByteArray->Int->ByteArray->Int->Option (Except (Value×zB) (zC×zB))
  | 0,_,_,_,_,_,_,_,_,_=>none
  | n+1,a3,a4,a5,a6,a0,a1,a7,a2,a8=>Ge F s78_ p2 (Db F s78_ p2 n) a3 a4 a5 a6 a0 a1 a7 a2 a8
def Fp (F:Nat) (s78_:Ah) (p0:zB) (p2:List Int):Option (Except (Value×zB) (zC×zB)):=(Az F s78_ p0).bind λy5=>exc y5 (λe7=>some (.error (e7.1,(zB.mk e7.2.s e7.2.at_ e7.2.token e7.2.from_)))) λy6=>Db F s78_ p2 F y6.1.Op y6.1.Value_ y6.1.Rays y6.1.Gates y6.1.Args y6.2.s y6.2.at_ y6.2.token y6.2.from_
def psift_reader_cond (F:Nat) (s78_:Ah) (p0:zB):Option (Except (Value×zB) (zC×zB)):=(Fp F s78_ p0 ([5])).bind λa2=>exc a2 (λa1=>some (.error (a1.1,(zB.mk a1.2.s a1.2.at_ a1.2.token a1.2.from_)))) λa0=>some (.ok ((zC.mk a0.1.Op a0.1.Value_ a0.1.Rays a0.1.Gates a0.1.Args),(zB.mk a0.2.s a0.2.at_ a0.2.token a0.2.from_)))
def J7 (F:Nat) (s78_:Ah) (p0:zB) (p1:Int):Option (Except (Value×zB) (zC×zB)):=(Eg F p0 3).bind λy2=>exc y2 (λe4=>some (.error (e4.1,(zB.mk e4.2.s e4.2.at_ e4.2.token e4.2.from_)))) λy3=>(Eg F (zB.mk y3.2.s y3.2.at_ y3.2.token y3.2.from_) 3).bind λa4=>exc a4 (λa1=>some (.error (a1.1,(zB.mk a1.2.s a1.2.at_ a1.2.token a1.2.from_)))) λa3=>(s78_ (zB.mk a3.2.s a3.2.at_ a3.2.token a3.2.from_)).bind λa5=>exc a5 (λa2=>some (.error (a2.1,(zB.mk a2.2.s a2.2.at_ a2.2.token a2.2.from_)))) λa0=>some (.ok ((zC.mk p1 0 y3.1 a3.1 ([(zC.mk a0.1.Op a0.1.Value_ a0.1.Rays a0.1.Gates a0.1.Args)])),(zB.mk a0.2.s a0.2.at_ a0.2.token a0.2.from_)))
def Bb (F:Nat) (s78_:Ah) (p0:zB):Option (Except (Value×zB) (zC×zB)):=(Hr F p0.token 15 25).bind λy2=>bif (y2==0) then ((Eg F p0 1000000000).bind λy3=>exc y3 (λe5=>some (.error (e5.1,(zB.mk e5.2.s e5.2.at_ e5.2.token e5.2.from_)))) λy4=>some (.ok ((zC.mk 14 y4.1 0 0 ([]:(List zC))),(zB.mk y4.2.s y4.2.at_ y4.2.token y4.2.from_)))) else (bif (y2==25) then ((Ao F p0).bind λa2=>(J7 F s78_ a2 25).bind λa3=>exc a3 (λa1=>some (.error (a1.1,(zB.mk a1.2.s a1.2.at_ a1.2.token a1.2.from_)))) λa0=>some (.ok ((zC.mk a0.1.Op a0.1.Value_ a0.1.Rays a0.1.Gates a0.1.Args),(zB.mk a0.2.s a0.2.at_ a0.2.token a0.2.from_)))) else ((Ao F p0).bind λa4=>some (.ok ((zC.mk y2 0 0 0 ([]:(List zC))),a4))))
def K5 (F:Nat) (s78_:Ah) (a5 a6 a7 a8:Int) (a2:List zC) (a3:ByteArray) (a9:Int) (a4:ByteArray) (aA:Int) (k1:Int->Int->Int->Int->List zC->ByteArray->Int->ByteArray->Int->Option (Except (Value×zB) (zC×zB))) (aB:Int):Option (Except (Value×zB) (zC×zB)):=bif (aB==0) then (some (.ok ((zC.mk a5 a6 a7 a8 a2),(zB.mk a3 a9 a4 aA)))) else ((Ao F (zB.mk a3 a9 a4 aA)).bind λaC=>(Bb F s78_ aC).bind λaD=>exc aD (λa1=>some (.error (a1.1,(zB.mk a1.2.s a1.2.at_ a1.2.token a1.2.from_)))) λa0=>k1 aB 0 0 0 ([(zC.mk a5 a6 a7 a8 a2),(zC.mk a0.1.Op a0.1.Value_ a0.1.Rays a0.1.Gates a0.1.Args)]) a0.2.s a0.2.at_ a0.2.token a0.2.from_)
def Fo (a0:Int) (k3:Int->Int->Option (Except (Value×zB) (zC×zB))) (a1:Int):Option (Except (Value×zB) (zC×zB)):=(ck (a0+1)).bind λa2=>k3 a2 a1
def Fm (F:Nat) (s78_:Ah) (p2:List Int) (a7 a8 a9 aA:Int) (a4:List zC) (a5:ByteArray) (aB:Int) (a1:ByteArray) (aC:Int) (k1:Int->Int->Int->Int->List zC->ByteArray->Int->ByteArray->Int->Option (Except (Value×zB) (zC×zB))) (k3:Int->Int->Option (Except (Value×zB) (zC×zB))) (a0 a3:Int):Option (Except (Value×zB) (zC×zB)):=bif (decide (a0<(p2.length:Int))) then ((Av p2 a0).bind λa2=>(A4u Cf a2).bind λa6=>bif (sEq a1 a6) then (Fo a0 k3 a2) else (Fo a0 k3 a3)) else (K5 F s78_ a7 a8 a9 aA a4 a5 aB a1 aC k1 a3)
def Cm (F:Nat) (s78_:Ah) (p2:List Int) (a3 a4 a5 a6:Int) (a0:List zC) (a1:ByteArray) (a7:Int) (a2:ByteArray) (a8:Int) (k1:Int->Int->Int->Int->List zC->ByteArray->Int->ByteArray->Int->Option (Except (Value×zB) (zC×zB))):Nat->Int->Int->Option (Except (Value×zB) (zC×zB))
  | 0,_,_=>none
  | n+1,a9,aA=>Fm F s78_ p2 a3 a4 a5 a6 a0 a1 a7 a2 a8 k1 (Cm F s78_ p2 a3 a4 a5 a6 a0 a1 a7 a2 a8 k1 n) a9 aA
def Fl (F:Nat) (s78_:Ah) (p2:List Int) (k1:Int->Int->Int->Int->List zC->ByteArray->Int->ByteArray->Int->Option (Except (Value×zB) (zC×zB))) (a3 a4 a5 a6:Int) (a0:List zC) (a1:ByteArray) (a7:Int) (a2:ByteArray) (a8:Int):Option (Except (Value×zB) (zC×zB)):=Cm F s78_ p2 a3 a4 a5 a6 a0 a1 a7 a2 a8 k1 F 0 0
def D1 (F:Nat) (s78_:Ah) (p2:List Int):Nat->Int->Int->Int->Int->List zC->ByteArray->Int->ByteArray->Int->Option (Except (Value×zB) (zC×zB))
  | 0,_,_,_,_,_,_,_,_,_=>none
  | n+1,a3,a4,a5,a6,a0,a1,a7,a2,a8=>Fl F s78_ p2 (D1 F s78_ p2 n) a3 a4 a5 a6 a0 a1 a7 a2 a8
def Cq (F:Nat) (s78_:Ah) (p0:zB) (p2:List Int):Option (Except (Value×zB) (zC×zB)):=(Bb F s78_ p0).bind λy5=>exc y5 (λe7=>some (.error (e7.1,(zB.mk e7.2.s e7.2.at_ e7.2.token e7.2.from_)))) λy6=>D1 F s78_ p2 F y6.1.Op y6.1.Value_ y6.1.Rays y6.1.Gates y6.1.Args y6.2.s y6.2.at_ y6.2.token y6.2.from_
def Fw (F:Nat) (s78_:Ah) (a2:zC×zB) (a7:Int) (a3:ByteArray) (a5:Int) (a4:ByteArray) (a6:Int):Option (Except (Value×zB) (zC×zB)):=(Ao F (zB.mk a3 a5 a4 a6)).bind λa8=>(Cq F s78_ a8 ([26,27])).bind λa9=>exc a9 (λa1=>some (.error (a1.1,(zB.mk a1.2.s a1.2.at_ a1.2.token a1.2.from_)))) λa0=>some (.ok ((zC.mk a7 0 0 0 ([(zC.mk a2.1.Op a2.1.Value_ a2.1.Rays a2.1.Gates a2.1.Args),(zC.mk a0.1.Op a0.1.Value_ a0.1.Rays a0.1.Gates a0.1.Args)])),(zB.mk a0.2.s a0.2.at_ a0.2.token a0.2.from_)))
def Fv (F:Nat) (s78_:Ah) (p0:zB) (a6:Bool):Option (Except (Value×zB) (zC×zB)):=bif a6 then ((Ao F p0).bind λa9=>none) else ((Dq F p0 (⟨#[40]⟩:ByteArray)).bind λa3=>bif a3.1 then (none) else ((Cq F s78_ (zB.mk a3.2.s a3.2.at_ a3.2.token a3.2.from_) ([26,27])).bind λa7=>exc a7 (λa1=>some (.error (a1.1,(zB.mk a1.2.s a1.2.at_ a1.2.token a1.2.from_)))) λa0=>(Hr F a0.2.token 8 13).bind λa5=>bif (a5==0) then ((Dp F (zB.mk a0.2.s a0.2.at_ a0.2.token a0.2.from_)).bind λa8=>exc a8 (λa2=>some (.error (a2.1,(zB.mk a2.2.s a2.2.at_ a2.2.token a2.2.from_)))) λa4=>Fw F s78_ a0 a5 a4.s a4.at_ a4.token a4.from_) else (Fw F s78_ a0 a5 a0.2.s a0.2.at_ a0.2.token a0.2.from_)))
def Fu (F:Nat) (s78_:Ah) (p0:zB) (y2:Int) (c3:Bool):Option (Except (Value×zB) (zC×zB)):=bif c3 then ((Ao F p0).bind λy4=>none) else (bif (y2==3) then ((Ao F p0).bind λy8=>none) else (bif (y2==6) then (Fv F s78_ p0 (y2==6)) else (Fv F s78_ p0 (y2==7))))
def Ga (F:Nat) (s78_:Ah) (p0:zB):Option (Except (Value×zB) (zC×zB)):=(Hr F p0.token 1 7).bind λy2=>bif (y2==1) then (Fu F s78_ p0 y2 (y2==1)) else (Fu F s78_ p0 y2 (y2==2))
def psift_reader_prim:Nat->Ah
  | 0=>λ_=>none
  | F+1=>Ga F (psift_reader_prim F)
def Ki (a1:ByteArray) (a3:Int) (a2:ByteArray) (a4:Int) (a0:List zR):Option (Except (Value×zB) ((List zR)×zB)):=some (.ok (a0,(zB.mk a1 a3 a2 a4)))
def Et (F:Nat) (a7:ByteArray) (a5:List zR) (k2:ByteArray->Int->ByteArray->Int->List zR->Option (Except (Value×zB) ((List zR)×zB))) (a8:ByteArray) (aA:Int) (a9:ByteArray) (aB:Int):Option (Except (Value×zB) ((List zR)×zB)):=(Ao F (zB.mk a8 aA a9 aB)).bind λaC=>(Er F aC (⟨#[58]⟩:ByteArray)).bind λaD=>exc aD (λa1=>some (.error (a1.1,(zB.mk a1.2.s a1.2.at_ a1.2.token a1.2.from_)))) λaE=>(psift_reader_cond F (psift_reader_prim F) aE).bind λaF=>exc aF (λa2=>some (.error (a2.1,(zB.mk a2.2.s a2.2.at_ a2.2.token a2.2.from_)))) λa0=>(Er F (zB.mk a0.2.s a0.2.at_ a0.2.token a0.2.from_) (⟨#[59]⟩:ByteArray)).bind λaG=>exc aG (λa3=>some (.error (a3.1,(zB.mk a3.2.s a3.2.at_ a3.2.token a3.2.from_)))) λa4=>(apd 72 a5 ([(zR.mk a7 (zC.mk a0.1.Op a0.1.Value_ a0.1.Rays a0.1.Gates a0.1.Args))])).bind λa6=>k2 a4.s a4.at_ a4.token a4.from_ a6
def Dn (F:Nat) (k2:ByteArray->Int->ByteArray->Int->List zR->Option (Except (Value×zB) ((List zR)×zB))) (a3:ByteArray) (a6:Int) (a0:ByteArray) (a4:Int) (a5:List zR):Option (Except (Value×zB) ((List zR)×zB)):=bif (decide (a4<((a3.size:Nat):Int))) then (bif (sEq a0 (⟨#[]⟩:ByteArray)) then ((Dp F (zB.mk a3 a6 a0 a4)).bind λaB=>exc aB (λa1=>some (.error (a1.1,(zB.mk a1.2.s a1.2.at_ a1.2.token a1.2.from_)))) λa7=>Et F a0 a5 k2 a7.s a7.at_ a7.token a7.from_) else ((cutS a0 0 1).bind λaA=>(strings_Contains F (⟨#[97,98,99,100,101,102,103,104,105,106,107,108,109,110,111,112,113,114,115,116,117,118,119,120,121,122]⟩:ByteArray) aA).bind λa9=>(gd (((!a9)==false&&true)) (sift_word F a0) default).bind λaC=>bif (bif (bif (!a9) then true else aC) then true else (decide (((a0.size:Nat):Int)>12))) then ((Dp F (zB.mk a3 a6 a0 a4)).bind λaD=>exc aD (λa2=>some (.error (a2.1,(zB.mk a2.2.s a2.2.at_ a2.2.token a2.2.from_)))) λa8=>Et F a0 a5 k2 a8.s a8.at_ a8.token a8.from_) else (Et F a0 a5 k2 a3 a6 a0 a4))) else (Ki a3 a6 a0 a4 a5)
def Do (F:Nat):Nat->ByteArray->Int->ByteArray->Int->List zR->Option (Except (Value×zB) ((List zR)×zB))
  | 0,_,_,_,_,_=>none
  | n+1,a1,a3,a2,a4,a0=>Dn F (Do F n) a1 a3 a2 a4 a0
def Gl (F:Nat) (p0:zB):Option (Except (Value×zB) ((List zR)×zB)):=(Ao F p0).bind λa0=>Do F F a0.s a0.at_ a0.token a0.from_ ([])
def Q1 (a0:Int):Option Int:=some a0
def Sn (self_:zC->Int->Option Int) (p0:zC) (p1:Int) (k2:Int->Int->Option Int) (a1 a0:Int):Option Int:=bif (decide (a1<(p0.Args.length:Int))) then ((Av p0.Args a1).bind λa2=>bif (decide (a0>p1)) then (Q1 a0) else ((ck (p1-a0)).bind λa3=>(self_ a2 a3).bind λa6=>(ck (a0+a6)).bind λa4=>(ck (a1+1)).bind λa5=>k2 a5 a4)) else (Q1 a0)
def Q2 (self_:zC->Int->Option Int) (p0:zC) (p1:Int):Nat->Int->Int->Option Int
  | 0,_,_=>none
  | n+1,a0,a1=>Sn self_ p0 p1 (Q2 self_ p0 p1 n) a0 a1
def Tm (F:Nat) (self_:zC->Int->Option Int) (p0:zC) (p1:Int):Option Int:=Q2 self_ p0 p1 F 0 1
def sift_counted:Nat->zC->Int->Option Int
  | 0,_,_=>none
  | F+1,p0,p1=>Tm F (sift_counted F) p0 p1
def beam_Name (F:Nat) (p0:ByteArray):Option Bool:=(gd (((bif (!(sEq p0 (⟨#[]⟩:ByteArray))) then (decide (((p0.size:Nat):Int)<=12)) else false)==true&&true)) (Yn p0 (0:Int)) default).bind λu1=>(gd (((bif (bif (!(sEq p0 (⟨#[]⟩:ByteArray))) then (decide (((p0.size:Nat):Int)<=12)) else false) then (decide (u1>=97)) else false)==true&&true)) (Yn p0 (0:Int)) default).bind λu2=>some (bif (bif (bif (bif (!(sEq p0 (⟨#[]⟩:ByteArray))) then (decide (((p0.size:Nat):Int)<=12)) else false) then (decide (u1>=97)) else false) then (decide (u2<=122)) else false) then (!(Nu p0)) else false)
def Jg (p0 c0_:zR):Bool:=sEq p0.Name c0_.Name
def V9 (a0:Int):Option Int:=(ck (a0+1)).bind λa1=>some a1
def V8 (self_:zC->Option Int) (p0:zC) (k2:Int->Int->Option Int) (a0 a1:Int):Option Int:=bif (decide (a1<(p0.Args.length:Int))) then ((Av p0.Args a1).bind λa3=>(self_ a3).bind λa2=>(ck (a1+1)).bind λa4=>k2 (if a2>a0 then a2 else a0) a4) else (V9 a0)
def Sz (self_:zC->Option Int) (p0:zC):Nat->Int->Int->Option Int
  | 0,_,_=>none
  | n+1,a0,a1=>V8 self_ p0 (Sz self_ p0 n) a0 a1
def Wl (F:Nat) (self_:zC->Option Int) (p0:zC):Option Int:=Sz self_ p0 F 0 0
def sift_deep:Nat->zC->Option Int
  | 0,_=>none
  | F+1,p0=>Wl F (sift_deep F) p0
def sift_isCondition (p0:zC):Bool:=bif (decide (p0.Op>=1)) then (decide (p0.Op<=13)) else false
def G2 (p0:zC):Bool:=bif (decide (p0.Op>=14)) then (decide (p0.Op<=27)) else false
def R2 (p0:zC):Option Bool:=bif (decide (p0.Op<26)) then (some true) else ((Av p0.Args 1).bind λa0=>some (decide (a0.Op<26)))
def G3 (self_:zC->Option Bool) (p0:zC) (k2:Int->Option Bool) (a1:Int):Option Bool:=bif (decide (a1<(p0.Args.length:Int))) then ((Av p0.Args a1).bind λa0=>(gd (((!(sift_isCondition a0))==false&&true)) (self_ a0) default).bind λa3=>bif (bif (!(sift_isCondition a0)) then true else (!a3)) then (none) else ((ck (a1+1)).bind λa2=>k2 a2)) else (R2 p0)
def Hg (self_:zC->Option Bool) (p0:zC):Nat->Int->Option Bool
  | 0,_=>none
  | n+1,a0=>G3 self_ p0 (Hg self_ p0 n) a0
def R3 (p0:zC):Option Bool:=bif (decide (p0.Op<26)) then (some true) else ((Av p0.Args 1).bind λa0=>some (decide (a0.Op<26)))
def Kc (self_:zC->Option Bool) (p0:zC) (k4:Int->Option Bool) (a1:Int):Option Bool:=bif (decide (a1<(p0.Args.length:Int))) then ((Av p0.Args a1).bind λa0=>(gd (((!(sift_isCondition a0))==false&&true)) (self_ a0) default).bind λa3=>bif (bif (!(sift_isCondition a0)) then true else (!a3)) then (none) else ((ck (a1+1)).bind λa2=>k4 a2)) else (R3 p0)
def Ke (self_:zC->Option Bool) (p0:zC):Nat->Int->Option Bool
  | 0,_=>none
  | n+1,a0=>Kc self_ p0 (Ke self_ p0 n) a0
def R4 (p0:zC):Option Bool:=bif (decide (p0.Op<26)) then (some true) else ((Av p0.Args 1).bind λa0=>some (decide (a0.Op<26)))
def G4 (self_:zC->Option Bool) (p0:zC) (k6:Int->Option Bool) (a1:Int):Option Bool:=bif (decide (a1<(p0.Args.length:Int))) then ((Av p0.Args a1).bind λa0=>(gd (((!(G2 a0))==false&&true)) (self_ a0) default).bind λa3=>bif (bif (!(G2 a0)) then true else (!a3)) then (none) else ((ck (a1+1)).bind λa2=>k6 a2)) else (R4 p0)
def Hh (self_:zC->Option Bool) (p0:zC):Nat->Int->Option Bool
  | 0,_=>none
  | n+1,a0=>G4 self_ p0 (Hh self_ p0 n) a0
def To (p0:zC):Option Bool:=bif (decide (p0.Op<26)) then (some true) else ((Av p0.Args 1).bind λa0=>some (decide (a0.Op<26)))
def Tn (self_:zC->Option Bool) (p0:zC) (k8:Int->Option Bool) (a1:Int):Option Bool:=bif (decide (a1<(p0.Args.length:Int))) then ((Av p0.Args a1).bind λa0=>(gd (((!(sift_isCondition a0))==false&&true)) (self_ a0) default).bind λa3=>bif (bif (!(sift_isCondition a0)) then true else (!a3)) then (none) else ((ck (a1+1)).bind λa2=>k8 a2)) else (To p0)
def R5 (self_:zC->Option Bool) (p0:zC):Nat->Int->Option Bool
  | 0,_=>none
  | n+1,a0=>Tn self_ p0 (R5 self_ p0 n) a0
def Tp (p0:zC):Option Bool:=bif (decide (p0.Op<26)) then (some true) else ((Av p0.Args 1).bind λa0=>some (decide (a0.Op<26)))
def So (self_:zC->Option Bool) (p0:zC) (a2:Int->Option Bool) (a1:Int):Option Bool:=bif (decide (a1<(p0.Args.length:Int))) then ((Av p0.Args a1).bind λa0=>(gd (((!(sift_isCondition a0))==false&&true)) (self_ a0) default).bind λa4=>bif (bif (!(sift_isCondition a0)) then true else (!a4)) then (none) else ((ck (a1+1)).bind λa3=>a2 a3)) else (Tp p0)
def Q3 (self_:zC->Option Bool) (p0:zC):Nat->Int->Option Bool
  | 0,_=>none
  | n+1,a0=>So self_ p0 (Q3 self_ p0 n) a0
def H3 (F:Nat) (self_:zC->Option Bool) (p0:zC):Option Bool:=bif (p0.Op==3) then (none) else (bif (bif (p0.Op==4) then true else (p0.Op==5)) then (bif (bif (bif (bif ((p0.Args.length:Int) != 2) then true else (decide ((if p0.Gates<if p0.Rays<p0.Value_ then p0.Rays else p0.Value_ then p0.Gates else if p0.Rays<p0.Value_ then p0.Rays else p0.Value_)<0))) then true else (decide (p0.Value_>0))) then true else (decide ((if p0.Gates>p0.Rays then p0.Gates else p0.Rays)>0))) then (none) else (Hg self_ p0 F 0)) else (bif (bif (bif (p0.Op==6) then true else (p0.Op==7)) then true else (p0.Op==25)) then (bif (bif (bif (bif ((p0.Args.length:Int) != 1) then true else (decide ((if p0.Gates<if p0.Rays<p0.Value_ then p0.Rays else p0.Value_ then p0.Gates else if p0.Rays<p0.Value_ then p0.Rays else p0.Value_)<0))) then true else (decide (p0.Value_>0))) then true else (decide ((if p0.Gates>p0.Rays then p0.Gates else p0.Rays)>3))) then (none) else (Ke self_ p0 F 0)) else (bif (bif (bif (bif (decide (p0.Op>=8)) then (decide (p0.Op<=13)) else false) then true else (p0.Op==26)) then true else (p0.Op==27)) then (bif (bif (bif (bif ((p0.Args.length:Int) != 2) then true else (decide ((if p0.Gates<if p0.Rays<p0.Value_ then p0.Rays else p0.Value_ then p0.Gates else if p0.Rays<p0.Value_ then p0.Rays else p0.Value_)<0))) then true else (decide (p0.Value_>0))) then true else (decide ((if p0.Gates>p0.Rays then p0.Gates else p0.Rays)>0))) then (none) else (Hh self_ p0 F 0)) else (bif (p0.Op==14) then (bif (bif (bif (bif ((p0.Args.length:Int) != 0) then true else (decide ((if p0.Gates<if p0.Rays<p0.Value_ then p0.Rays else p0.Value_ then p0.Gates else if p0.Rays<p0.Value_ then p0.Rays else p0.Value_)<0))) then true else (decide (p0.Value_>1000000000))) then true else (decide ((if p0.Gates>p0.Rays then p0.Gates else p0.Rays)>0))) then (none) else (R5 self_ p0 F 0)) else (bif (bif (!(sift_isCondition p0)) then (!(G2 p0)) else false) then (none) else (bif (bif (bif (bif ((p0.Args.length:Int) != 0) then true else (decide ((if p0.Gates<if p0.Rays<p0.Value_ then p0.Rays else p0.Value_ then p0.Gates else if p0.Rays<p0.Value_ then p0.Rays else p0.Value_)<0))) then true else (decide (p0.Value_>0))) then true else (decide ((if p0.Gates>p0.Rays then p0.Gates else p0.Rays)>0))) then (none) else (Q3 self_ p0 F 0)))))))
def sift_stated:Nat->zC->Option Bool
  | 0,_=>none
  | F+1,p0=>H3 F (sift_stated F) p0
def D5:Option Int:=some (-1)
def Bc (p0:List zR) (c1_0_:zR) (k2:Int->Option Int) (a0:Int):Option Int:=bif (decide (a0<(p0.length:Int))) then ((Av p0 a0).bind λa1=>bif (Jg a1 c1_0_) then (some a0) else ((ck (a0+1)).bind λa2=>k2 a2)) else (D5)
def Be (p0:List zR) (c1_0_:zR):Nat->Int->Option Int
  | 0,_=>none
  | n+1,a0=>Bc p0 c1_0_ (Be p0 c1_0_ n) a0
def Cl (F:Nat) (p0:List zR) (c1_0_:zR):Option Int:=Be p0 c1_0_ F 0
def Bt (F:Nat) (p0:List zR) (c1_0_:zR):Option Bool:=(Cl F p0 c1_0_).bind λa0=>some (decide (a0>=0))
def U7:Option Int:=some 0
def La (F:Nat) (p0:List zR) (k3:Int->Option Int) (a1:Int):Option Int:=bif (decide (a1<(p0.length:Int))) then ((Av p0 a1).bind λa0=>(beam_Name F a0.Name).bind λa2=>(gd (((!a2)==false&&true)) (sift_word F a0.Name) default).bind λa5=>bif (bif (!a2) then true else a5) then (none) else ((Sx p0 (0:Int) a1).bind λa3=>(Bt F a3 a0).bind λa6=>bif a6 then (none) else ((sift_deep F a0.When).bind λa7=>bif (decide (a7>12)) then (none) else ((gd (((!(sift_isCondition a0.When))==false&&true)) (sift_stated F a0.When) default).bind λa8=>bif (bif (!(sift_isCondition a0.When)) then true else (!a8)) then (none) else ((ck (a1+1)).bind λa4=>k3 a4))))) else (U7)
def Mv (F:Nat) (p0:List zR):Nat->Int->Option Int
  | 0,_=>none
  | n+1,a0=>La F p0 (Mv F p0 n) a0
def U6 (F:Nat) (p0:List zR):Option Int:=Mv F p0 F 0
def Lb (F:Nat) (p0:List zR) (k4:Int->Int->Option Int) (a0 a3:Int):Option Int:=bif (decide (a0<(p0.length:Int))) then ((Av p0 a0).bind λa2=>(sift_counted F a2.When 300).bind λa5=>(ck (a3+a5)).bind λa1=>bif (decide (a1>300)) then (none) else ((ck (a0+1)).bind λa4=>k4 a4 a1)) else (U6 F p0)
def Mw (F:Nat) (p0:List zR):Nat->Int->Int->Option Int
  | 0,_,_=>none
  | n+1,a0,a1=>Lb F p0 (Mw F p0 n) a0 a1
def Q8 (F:Nat) (p0:List zR):Option Int:=bif (decide ((p0.length:Int)>32)) then (none) else (Mw F p0 F 0 0)
def T7 (F:Nat) (p0:ByteArray):Option ((List zR)×Int×Int):=bif (decide (((p0.size:Nat):Int)>65536)) then (none) else ((Gl F (zB.mk p0 0 ByteArray.empty 0)).bind λy5=>exc y5 (λe7=>(asI 75 .i64 e7.1).bind λa1=>some (([]:(List zR)),a1,7)) λy6=>(Q8 F y6.1).bind λa0=>bif (a0 != 0) then (none) else (some (y6.1,0,0)))
def R8 (self_:Int->Option ByteArray) (p0:Int):Option ByteArray:=(Jr p0 10).bind λx1=>(ck (48+x1)).bind λx2=>bif (decide (p0>=10)) then ((Qy p0 10).bind λx4=>(self_ x4).bind λy5=>(Jd y5 (bst ([IntKind.u8.wrap x2]))).bind λs6=>some s6) else (some (bst ([IntKind.u8.wrap x2])))
def Lm:Nat->Int->Option ByteArray
  | 0,_=>none
  | F+1,p0=>R8 (Lm F) p0
def Mk (a0:ByteArray):Option ByteArray:=some a0
def Kg (a2:Int) (k2:ByteArray->Int->Option ByteArray) (a0:ByteArray):Option ByteArray:=(ck (a2+1)).bind λa1=>k2 a0 a1
def F2 (p0:zU) (a3 a4 a5:ByteArray) (k2:ByteArray->Int->Option ByteArray) (a1:ByteArray) (a0:Int):Option ByteArray:=bif (decide (a0<((4:Nat):Int))) then ((ck p0.Rules).bind λa7=>(B2x .i64 a7 a0).bind λa8=>bif ((A5y .i64 a8 1)==1) then ((Av ([a3,a4,(⟨#[108,111,110,101,58,32,107,105,110,100,32,61,32,51,32,97,110,100,32,99,111,117,110,116,32,49,32,49,32,107,105,110,100,32,61,32,49,32,62,32,52,59]⟩:ByteArray),a5]) a0).bind λa6=>(Jd a1 a6).bind λa2=>Kg a0 k2 a2) else (Kg a0 k2 a1)) else (Mk a1)
def Dx (p0:zU) (a0 a1 a2:ByteArray):Nat->ByteArray->Int->Option ByteArray
  | 0,_,_=>none
  | n+1,a3,a4=>F2 p0 a0 a1 a2 (Dx p0 a0 a1 a2 n) a3 a4
def Kq (F:Nat) (p0:zU):Option ByteArray:=(ck p0.Weak).bind λa8=>(Jr a8 400).bind λa9=>(Lm F a9).bind λaG=>(Jd (⟨#[119,101,97,107,58,32,112,111,119,101,114,32,60,32]⟩:ByteArray) aG).bind λa0=>(Jd a0 (⟨#[59]⟩:ByteArray)).bind λa1=>(ck p0.Weak).bind λaA=>(ck (aA*3)).bind λaB=>(Lm F aB).bind λaH=>(Jd (⟨#[111,100,100,58,32,107,105,110,100,32,61,32,50,32,111,114,32,115,112,114,101,97,100,32,62,32]⟩:ByteArray) aH).bind λa2=>(Jd a2 (⟨#[59]⟩:ByteArray)).bind λa3=>(ck p0.Far).bind λaC=>(Jr aC 3).bind λaD=>(Lm F aD).bind λaI=>(Jd (⟨#[102,97,114,58,32,103,97,116,101,32,62,32]⟩:ByteArray) aI).bind λa4=>(Jd a4 (⟨#[32,97,110,100,32,114,97,121,32,61,32]⟩:ByteArray)).bind λa5=>(ck p0.Far).bind λaE=>(Jr aE 4).bind λaF=>(Lm F aF).bind λaJ=>(Jd a5 aJ).bind λa6=>(Jd a6 (⟨#[59]⟩:ByteArray)).bind λa7=>Dx p0 a1 a3 a7 F (⟨#[]⟩:ByteArray) 0
def G6 (F:Nat) (p0:zW):Option zH:=(ck p0.Lambda).bind λa4=>(ck (200*a4)).bind λa5=>(ck (60000+a5)).bind λa2=>(ck p0.Kind).bind λa6=>(Jr a6 3).bind λa7=>(ck (1+a7)).bind λa0=>(ck p0.First).bind λa8=>(ck (4*a8)).bind λa9=>(ck (400+a9)).bind λa1=>(ck p0.Count).bind λaA=>(Jr aA 5).bind λaB=>(ck (2*aB)).bind λaC=>(ck (4+aC)).bind λa3=>bif (a0 != 1) then ((ck (a1+1)).bind λaD=>(ck p0.Second).bind λaE=>(ck (4*aE)).bind λaF=>(ck (aD+aF)).bind λaG=>some (zH.mk a2 a0 a1 aG a3)) else (some (zH.mk a2 a0 a1 0 a3))
def Ht (F:Nat) (p0:zW) (p1:Int):Option Int:=(ck p0.Base).bind λa0=>(ck p0.Jump).bind λa3=>(Jr a3 9000).bind λa1=>bif (decide ((p0.Speeds.length:Int)>0)) then ((Jr p1 (p0.Speeds.length:Int)).bind λa4=>(Av p0.Speeds a4).bind λa2=>(ck a2).bind λa5=>(Qy a1 2).bind λa6=>(ck (a6+1)).bind λa7=>(Jr a5 a7).bind λa8=>(Qy a1 4).bind λa9=>(ck (a8-a9)).bind λaA=>(ck (a0+aA)).bind λaB=>some aB) else (some a0)
def Ea (F:Nat) (p0:zW):Option Int:=(ck p0.Slip).bind λa0=>(Jr a0 17).bind λa1=>(ck (25*a1)).bind λa2=>(ck (1+a2)).bind λa3=>some a3
def Ag (p0 p1 p2:Int):Bool:=bif (decide (p1<=p0)) then (decide (p0<=p2)) else false
def Jb (p0:zH) (x3:Int) (c5:Bool):Option Int:=bif (bif (bif (bif (!c5) then true else (!(Ag p0.Lambda 10000 1000000))) then true else (!(Ag p0.First 200 5000))) then true else (!(Ag p0.Count x3 64))) then (some 3) else (some 0)
def Gb (p0:zH) (x3:Int) (c4:Bool):Option Int:=bif (p0.Kind != 1) then (Jb p0 x3 (bif (bif c4 then (Ag p0.Second 200 5000) else false) then (decide (p0.First<p0.Second)) else false)) else (Jb p0 x3 c4)
def F6 (F:Nat) (p0:zH):Option Int:=bif (p0.Kind==1) then (Gb p0 2 (p0.Second==0)) else (bif (p0.Kind==2) then ((Jr p0.Count 2).bind λx8=>Gb p0 4 (x8==0)) else (bif (p0.Kind==3) then (Gb p0 3 true) else (some 2)))
def Aq (p0:zA) (p1 p2:Int):Bool:=bif (bif (decide (p1<=p0.Lo)) then (decide (p0.Lo<=p0.Hi)) else false) then (decide (p0.Hi<=p2)) else false
def J9 (F:Nat) (p0:zV):Option Int:=bif (bif (bif (!(Ag p0.Level 0 64)) then true else (!(Ag p0.Phase 0 4096))) then true else (!(Aq p0.Noise 0 1048576))) then (none) else (some 0)
def C7 (p0:Int):Int:=(A5y .i64 p0 65535)
def Fj (p1:List zQ) (p2:Int) (k1:Int->Int->Int->Int->Option (Int×Int×Int)) (a4 a5 a6 a2:Int):Option (Int×Int×Int):=bif (decide (a2<(p1.length:Int))) then ((Av p1 a2).bind λa3=>(ck (a3.H+p2)).bind λa0=>(ck (a3.V+p2)).bind λa1=>(ck ((if a0>0 then a0 else 0)*(if a0>0 then a0 else 0))).bind λa7=>(ck ((if a1>0 then a1 else 0)*(if a1>0 then a1 else 0))).bind λa8=>(ck ((if a0>0 then a0 else 0)*(if a1>0 then a1 else 0))).bind λa9=>(ck (a4+a7)).bind λaA=>(ck (a5+a8)).bind λaB=>(ck (a6+a9)).bind λaC=>(ck (a2+1)).bind λaD=>k1 aA aB aC aD) else (some (a4,a5,a6))
def Fk (p1:List zQ) (p2:Int):Nat->Int->Int->Int->Int->Option (Int×Int×Int)
  | 0,_,_,_,_=>none
  | n+1,a0,a1,a2,a3=>Fj p1 p2 (Fk p1 p2 n) a0 a1 a2 a3
def Nm (F:Nat) (p0:Int×Int×Int) (p1:List zQ) (p2:Int):Option (Int×Int×Int):=Fk p1 p2 F p0.1 p0.2.1 p0.2.2 0
def L8 (F:Nat) (p0 p1:Int):Option Int:=(Qy p0 p1).bind λx1=>(ck (x1*p1)).bind λx2=>bif (decide (x2>p0)) then ((ck (x1-1)).bind λx3=>some x3) else (some x1)
def Pn (F:Nat) (p0 p1:Int):Option Int:=(L8 F (IntKind.i64.wrap (0-p0)) p1).bind λy1=>some (IntKind.i64.wrap (0-y1))
def E7 {σ:Type} (a1:Int) (k1:Int->σ->Option (σ×Bool)) (a0:σ):Option (σ×Bool):=(ck (a1+1)).bind λa2=>k1 a2 a0
def Cc {σ:Type} (body:σ->(Int×Int)->Option (σ×Bool)) (c0_:List zQ) (a1:Int) (a2:σ) (k1:Int->σ->Option (σ×Bool)) (a3:zQ) (a5:Int):Option (σ×Bool):=(Av c0_ a1).bind λa4=>(ck (a3.P-a4.P)).bind λa6=>(body a2 (a5,(C7 a6))).bind λa0=>bif a0.2 then (E7 a1 k1 a0.1) else (some (a0.1,false))
def Dh {σ:Type} (body:σ->(Int×Int)->Option (σ×Bool)) (c0_:List zQ) (c1_:zH) (l4:List zQ) (k1:Int->σ->Option (σ×Bool)) (a0:Int) (a1:σ):Option (σ×Bool):=bif (decide (a0<(l4.length:Int))) then ((Av l4 a0).bind λa2=>bif (c1_.Kind==2) then ((ck (a0+1)).bind λa3=>(Qy (c0_.length:Int) 2).bind λa4=>bif (a3==a4) then (E7 a0 k1 a1) else ((Qy (c0_.length:Int) 2).bind λa5=>bif (decide (a0>=a5)) then (Cc body c0_ a0 a1 k1 a2 1) else (Cc body c0_ a0 a1 k1 a2 0))) else (bif (c1_.Kind==3) then ((Jr a0 2).bind λa6=>Cc body c0_ a0 a1 k1 a2 a6) else (Cc body c0_ a0 a1 k1 a2 0))) else (some (a1,true))
def Bz {σ:Type} (body:σ->(Int×Int)->Option (σ×Bool)) (c0_:List zQ) (c1_:zH) (l4:List zQ):Nat->Int->σ->Option (σ×Bool)
  | 0,_,_=>none
  | n+1,a1,a0=>Dh body c0_ c1_ l4 (Bz body c0_ c1_ l4 n) a1 a0
def Jc {σ:Type} (F:Nat) (c0_:List zQ) (c1_:zH) (body:σ->(Int×Int)->Option (σ×Bool)) (s_:σ):Option (σ×Bool):=(Sx c0_ 1 (c0_.length:Int)).bind λl4=>Bz body c0_ c1_ l4 F 0 s_
def U1 (p0:zH) (p1:List zQ):Unit:=()
def Ra (p0:List Int):Unit:=()
def Qv (p0:List Int) (a0 a1 a2:Int):Option zT:=some (zT.mk a0 a1 a2 (p0.length:Int))
def K7 (p0:List Int) (a1 a8:Int) (k3:Int->Int->Option zT) (a2 a0:Int):Option zT:=bif (decide (a0<(p0.length:Int))) then ((Av p0 a0).bind λa3=>(ck (a3-a1)).bind λa4=>(ck (a1+(C7 a4))).bind λa5=>(ck (a2+a5)).bind λa6=>(ck (a0+1)).bind λa7=>k3 a6 a7) else (Qv p0 a1 a8 a2)
def K9 (p0:List Int) (a0 a1:Int):Nat->Int->Int->Option zT
  | 0,_,_=>none
  | n+1,a2,a3=>K7 p0 a0 a1 (K9 p0 a0 a1 n) a2 a3
def Ti (F:Nat) (p0:List Int) (a0 a1:Int):Option zT:=K9 p0 a0 a1 F 0 0
def No (a0:Int) (k4:Int->Int->Int->Option zT) (a1 a2:Int):Option zT:=(ck (a0+1)).bind λa3=>k4 a1 a2 a3
def K8 (F:Nat) (p0 a1:List Int) (k4:Int->Int->Int->Option zT) (a4 a2 a0:Int):Option zT:=bif (decide (a0<(a1.length:Int))) then ((Av a1 a0).bind λa3=>(ck (a0+(a1.length:Int))).bind λa7=>(ck (a7-1)).bind λa8=>(Jr a8 (a1.length:Int)).bind λa9=>(Av a1 a9).bind λa6=>(ck (a6-a3)).bind λa5=>bif (decide ((C7 a5)<a2)) then (No a0 k4 a3 (C7 a5)) else (No a0 k4 a4 a2)) else (Ti F p0 a4 a2)
def Hf (F:Nat) (p0 a0:List Int):Nat->Int->Int->Int->Option zT
  | 0,_,_,_=>none
  | n+1,a1,a2,a3=>K8 F p0 a0 (Hf F p0 a0 n) a1 a2 a3
def M7 (F:Nat) (p0:List Int):Option zT:=(R7 F p0).bind λa0=>(Q5 F a0).bind λa1=>Hf F p0 a1 F 0 65536 0
def Ch (F:Nat) (p0:zT) (p1:Int):Option Bool:=(gd (((p0.count==0)==false&&true)) (ck (4*p1)) 0).bind λx2=>(gd (((p0.count==0)==false&&true)) (ck (p0.width+x2)) 0).bind λx3=>some (bif (p0.count==0) then true else (decide (x3<32768)))
def Ev (F:Nat) (p0:zT) (p1:Int):Option zA:=bif (p0.count==0) then (some (zA.mk 0 0)) else ((ck (p0.sum-p1)).bind λx3=>(L8 F x3 p0.count).bind λy4=>(ck (p0.sum+p1)).bind λx5=>(Pn F x5 p0.count).bind λy6=>(ck (y4+32768)).bind λx7=>(ck ((C7 x7)-32768)).bind λx8=>(ck (x8+y6)).bind λx9=>(ck (x9-y4)).bind λa0=>some (zA.mk x8 a0))
def Ly (F:Nat) (p0 p1 p3:Int):Option Int:=bif (p1==0) then (some p3) else ((ck (1000*p0)).bind λx1=>(ck (x1*p0)).bind λx2=>(L8 F x2 p1).bind λy3=>some (if y3<1000 then y3 else 1000))
def Lz (F:Nat) (p0 p1 p3:Int):Option Int:=bif (p1==0) then (some p3) else ((ck (1000*p0)).bind λx1=>(ck (x1*p0)).bind λx2=>(Pn F x2 p1).bind λy3=>some (if y3<1000 then y3 else 1000))
def C0 (s_r:(List Int)×(List Int)×Nat) (x_:Int×Int):Option (((List Int)×(List Int)×Nat)×Bool):=bif (x_.1==0) then ((apd 8 s_r.1 ([x_.2])).bind λa0=>some ((a0,s_r.2.1,0),true)) else (bif (x_.1==1) then ((apd 8 s_r.2.1 ([x_.2])).bind λa1=>some ((s_r.1,a1,0),true)) else (none))
def Tk (tg_:Nat):Code:=.ret
def Qx (a7 a8 a0 a1 aA aB a2:Int) (a9:zA) (a3 a4 a5 a6:Int):Option zD:=some (zD.mk 3 (zA.mk a7 a8) ((zA.mk a3 a4),(zA.mk a5 a6)) a2 (zA.mk (if a0<1000000 then a0 else 1000000) (if a1<1000000 then a1 else 1000000)) (zA.mk aA aB) a9)
def Nq (F:Nat) (a1 a2 a3 a4 a5 a6 a7:Int) (k6:Int->Int->Int->Int->Int->Option zD) (a8:Int):Option zD:=(Ev F (zT.mk a1 a2 a3 a4) a8).bind λa0=>(ck (a7+1)).bind λa9=>k6 a0.Lo a0.Hi a5 a6 a9
def Nr (F:Nat) (a1 a2 a3 a4 a5 a6 a7:Int) (k6:Int->Int->Int->Int->Int->Option zD) (a8:Int):Option zD:=(Ev F (zT.mk a1 a2 a3 a4) a8).bind λa0=>(ck (a7+1)).bind λa9=>k6 a5 a6 a0.Lo a0.Hi a9
def G0 (F:Nat) (p0:zH) (p1:zV) (aI aJ aK aM aN aO a7 a8 a9 a1 aA aB aC a2 aF:Int) (aL:zA) (k6:Int->Int->Int->Int->Int->Option zD) (a3 a4 a5 a6 a0:Int):Option zD:=bif (decide (a0<2)) then (bif (a0==0) then ((ck (2*p1.Phase)).bind λaD=>bif (p0.Kind==3) then ((ck (aD*a1)).bind λaG=>Nq F a7 a8 a9 a1 a5 a6 a0 k6 aG) else (Nq F a7 a8 a9 a1 a5 a6 a0 k6 aD)) else (bif (a0==1) then ((ck (2*p1.Phase)).bind λaE=>bif (p0.Kind==3) then ((ck (aE*a2)).bind λaH=>Nr F aA aB aC a2 a3 a4 a0 k6 aH) else (Nr F aA aB aC a2 a3 a4 a0 k6 aE)) else (none))) else (Qx aI aJ aK aM aN aO aF aL a3 a4 a5 a6)
def Dj (F:Nat) (p0:zH) (p1:zV) (a9 aA aB aD aE aF a0 a1 a2 a3 a4 a5 a6 a7 a8:Int) (aC:zA):Nat->Int->Int->Int->Int->Int->Option zD
  | 0,_,_,_,_,_=>none
  | n+1,aG,aH,aI,aJ,aK=>G0 F p0 p1 a9 aA aB aD aE aF a0 a1 a2 a3 a4 a5 a6 a7 a8 aC (Dj F p0 p1 a9 aA aB aD aE aF a0 a1 a2 a3 a4 a5 a6 a7 a8 aC n) aG aH aI aJ aK
def Lx (F:Nat) (p0:zH) (p1:zV) (a3 a4 a0 a1 a6 a7:Int) (a5:zT) (a9 aA aB aC aD aE aF aG a2:Int) (a8:Bool):Option zD:=bif (!a8) then (some (zD.mk 2 (zA.mk a3 a4) ((zA.mk 0 0),(zA.mk 0 0)) a2 (zA.mk (if a0<1000000 then a0 else 1000000) (if a1<1000000 then a1 else 1000000)) (zA.mk a6 a7) (zA.mk 0 0))) else ((ck (2*p1.Phase)).bind λaH=>(ck (aH*a5.count)).bind λaI=>(Ev F a5 aI).bind λaJ=>Dj F p0 p1 a3 a4 a0 a1 a6 a7 a9 aA aB aC aD aE aF aG a2 aJ F 0 0 0 0 0)
def Ko (F:Nat) (p1:zV) (a6 a7 a8 a9 a1 aA:Int) (a2:Bool) (k9:Int->Int->Int->Int->Int->Int->Int->Int->Int->Int->Bool->Option zD) (a3 a0 a4 a5:Int):Option zD:=bif a2 then ((Ch F (zT.mk a3 a0 a4 a5) p1.Phase).bind λaD=>(ck (aA+1)).bind λaB=>k9 a3 a0 a4 a5 a6 a7 a8 a9 (if a0>a1 then a0 else a1) aB (bif a2 then aD else false)) else ((ck (aA+1)).bind λaC=>k9 a3 a0 a4 a5 a6 a7 a8 a9 (if a0>a1 then a0 else a1) aC (bif a2 then false else false))
def Kp (F:Nat) (p1:zV) (a6 a7 a8 a9 a1 aA:Int) (a2:Bool) (k9:Int->Int->Int->Int->Int->Int->Int->Int->Int->Int->Bool->Option zD) (a3 a0 a4 a5:Int):Option zD:=bif a2 then ((Ch F (zT.mk a3 a0 a4 a5) p1.Phase).bind λaD=>(ck (aA+1)).bind λaB=>k9 a6 a7 a8 a9 a3 a0 a4 a5 (if a0>a1 then a0 else a1) aB (bif a2 then aD else false)) else ((ck (aA+1)).bind λaC=>k9 a6 a7 a8 a9 a3 a0 a4 a5 (if a0>a1 then a0 else a1) aC (bif a2 then false else false))
def G1 (F:Nat) (p0:zH) (p1:zV) (aE aF aG aI aJ aK:Int) (a3:((List Int)×(List Int)×Nat)×Bool) (aH:zT) (k9:Int->Int->Int->Int->Int->Int->Int->Int->Int->Int->Bool->Option zD) (a4 a5 a6 a7 a8 a9 aA aB a2 a0:Int) (a1:Bool):Option zD:=bif (decide (a0<2)) then (bif (a0==0) then (bif (decide ((a3.1.1.length:Int)>0)) then ((M7 F a3.1.1).bind λaC=>Ko F p1 a8 a9 aA aB a2 a0 a1 k9 aC.base aC.width aC.sum aC.count) else (Ko F p1 a8 a9 aA aB a2 a0 a1 k9 a4 a5 a6 a7)) else (bif (a0==1) then (bif (decide ((a3.1.2.1.length:Int)>0)) then ((M7 F a3.1.2.1).bind λaD=>Kp F p1 a4 a5 a6 a7 a2 a0 a1 k9 aD.base aD.width aD.sum aD.count) else (Kp F p1 a4 a5 a6 a7 a2 a0 a1 k9 a8 a9 aA aB)) else (none))) else (Lx F p0 p1 aE aF aG aI aJ aK aH a4 a5 a6 a7 a8 a9 aA aB a2 a1)
def Dk (F:Nat) (p0:zH) (p1:zV) (a1 a2 a3 a5 a6 a7:Int) (a0:((List Int)×(List Int)×Nat)×Bool) (a4:zT):Nat->Int->Int->Int->Int->Int->Int->Int->Int->Int->Int->Bool->Option zD
  | 0,_,_,_,_,_,_,_,_,_,_,_=>none
  | n+1,a9,aA,aB,aC,aD,aE,aF,aG,aH,aI,a8=>G1 F p0 p1 a1 a2 a3 a5 a6 a7 a0 a4 (Dk F p0 p1 a1 a2 a3 a5 a6 a7 a0 a4 n) a9 aA aB aC aD aE aF aG aH aI a8
def Lw (F:Nat) (p0:zH) (p1:zV) (a3 a4 a5 a7 a8 a9:Int) (a2:((List Int)×(List Int)×Nat)×Bool) (a1:List Int):Option zD:=(M7 F a1).bind λa0=>(Ch F a0 p1.Phase).bind λa6=>Dk F p0 p1 a3 a4 a5 a7 a8 a9 a2 a0 F 0 0 0 0 0 0 0 0 0 0 a6
def J4 (F:Nat) (p0:zH) (p1:zV) (p2:List zQ) (a8 a9 aA aB aC aD:Int) (a5:((List Int)×(List Int)×Nat)×Bool) (a3:Int->List Int->Option zD) (a0:Int) (a1:List Int):Option zD:=bif (decide (a0<(p2.length:Int))) then ((Av p2 a0).bind λa2=>(ck (a2.Q-a2.P)).bind λa6=>(apd 8 a1 ([(C7 a6)])).bind λa4=>(ck (a0+1)).bind λa7=>a3 a7 a4) else (Lw F p0 p1 a8 a9 aA aB aC aD a5 a1)
def J5 (F:Nat) (p0:zH) (p1:zV) (p2:List zQ) (a1 a2 a3 a4 a5 a6:Int) (a0:((List Int)×(List Int)×Nat)×Bool):Nat->Int->List Int->Option zD
  | 0,_,_=>none
  | n+1,a8,a7=>J4 F p0 p1 p2 a1 a2 a3 a4 a5 a6 a0 (J5 F p0 p1 p2 a1 a2 a3 a4 a5 a6 a0 n) a8 a7
def Np (F:Nat) (p0:zH) (p1:zV) (p2:List zQ) (y9 a4:Int×Int×Int) (a1 a0 a2 a3:Int):Option zD:=bif ((((a1:Int)==0)&&(((a0:Int)==a0)&&true))&&((((a2:Int)==a2)&&(((a3:Int)==a3)&&true))&&true)) then (some (zD.mk 1 (zA.mk a1 a0) ((zA.mk 0 0),(zA.mk 0 0)) 0 (zA.mk 0 0) (zA.mk 0 0) (zA.mk 0 0))) else ((ck (1000*a2)).bind λa6=>(Qy a6 a0).bind λa7=>(ck (1000*a3)).bind λa8=>(Pn F a8 a1).bind λaB=>(ck (a4.1*a4.2.1)).bind λa9=>(ck (y9.1*y9.2.1)).bind λaA=>(Ly F y9.2.2 a9 0).bind λaC=>(Lz F a4.2.2 aA 1000).bind λaD=>(Jc F p2 p0 (C0) (([]:List Int),([]:List Int),0)).bind λa5=>bif a5.2 then (J5 F p0 p1 p2 a1 a0 a7 aB aC aD a5 F 0 ([])) else (none))
def Ey (F:Nat) (p0:zH) (p1:zV) (p2:List zQ) (y9 a1:Int×Int×Int) (a2:Int->Int->Int->Int->Int->Option zD) (a3 a4 a5 a6 a0:Int):Option zD:=bif (decide (a0<2)) then (bif (a0==0) then ((L8 F y9.1 (p2.length:Int)).bind λaD=>(ck (aD-p1.Noise.Hi)).bind λa7=>(Pn F a1.1 (p2.length:Int)).bind λaE=>(ck (aE-p1.Noise.Lo)).bind λa8=>(ck (a0+1)).bind λaB=>a2 (if a7>0 then a7 else 0) (if a8>0 then a8 else 0) a5 a6 aB) else (bif (a0==1) then ((L8 F y9.2.1 (p2.length:Int)).bind λaF=>(ck (aF-p1.Noise.Hi)).bind λa9=>(Pn F a1.2.1 (p2.length:Int)).bind λaG=>(ck (aG-p1.Noise.Lo)).bind λaA=>(ck (a0+1)).bind λaC=>a2 a3 a4 (if a9>0 then a9 else 0) (if aA>0 then aA else 0) aC) else (bif (a0==2) then (none) else (none)))) else (Np F p0 p1 p2 y9 a1 a3 a4 a5 a6)
def Cz (F:Nat) (p0:zH) (p1:zV) (p2:List zQ) (y9 a0:Int×Int×Int):Nat->Int->Int->Int->Int->Int->Option zD
  | 0,_,_,_,_,_=>none
  | n+1,a1,a2,a3,a4,a5=>Ey F p0 p1 p2 y9 a0 (Cz F p0 p1 p2 y9 a0 n) a1 a2 a3 a4 a5
def Sh (F:Nat) (p0:zH) (p1:zV) (p2:List zQ):Option zD:=(Nm F (0,0,0) p2 (IntKind.i64.wrap (0-p1.Level))).bind λy9=>(Nm F (0,0,0) p2 p1.Level).bind λa0=>Cz F p0 p1 p2 y9 a0 F 0 0 0 0 0
def Pk (F:Nat) (p0:zH) (p1:zV) (p2:List zQ):Option (zD×Int):=(Sh F p0 p1 p2).bind λa0=>some ((zD.mk a0.Kind a0.Power ((zA.mk a0.Steps.1.Lo a0.Steps.1.Hi),(zA.mk a0.Steps.2.Lo a0.Steps.2.Hi)) a0.Spread a0.Ratio a0.Match a0.Turn),0)
def L6 (F:Nat) (p0:zH) (p1:zV) (p2:List zQ) (k2:Int->Option (zD×Int)) (a1:Int):Option (zD×Int):=bif (decide (a1<(p2.length:Int))) then ((Av p2 a1).bind λa0=>bif (bif (bif (bif (!(Ag (if a0.V<a0.H then a0.V else a0.H) 0 1023)) then true else (!(Ag (if a0.V>a0.H then a0.V else a0.H) 0 1023))) then true else ((C7 a0.P) != a0.P)) then true else ((C7 a0.Q) != a0.Q)) then (none) else ((ck (a1+1)).bind λa2=>k2 a2)) else (Pk F p0 p1 p2)
def L7 (F:Nat) (p0:zH) (p1:zV) (p2:List zQ):Nat->Int->Option (zD×Int)
  | 0,_=>none
  | n+1,a0=>L6 F p0 p1 p2 (L7 F p0 p1 p2 n) a0
def Tg (F:Nat) (p0:zH) (p1:zV) (p2:List zQ):Option (zD×Int):=(F6 F p0).bind λy7=>bif (y7 != 0) then (none) else ((J9 F p1).bind λy8=>bif (y8 != 0) then (none) else (bif ((p2.length:Int) != p0.Count) then (none) else (L7 F p0 p1 p2 F 0)))
def Sj (F:Nat) (p0 p1:Int):Option Int:=(Qy p0 p1).bind λx1=>(Jr p0 p1).bind λx2=>bif (decide (x2<0)) then ((ck (x1-1)).bind λx3=>some x3) else (some x1)
def Ry (a0:List zQ):Option (List zQ):=some a0
def Pv (a1:Int) (k2:List zQ->Int->Int->Option (List zQ)) (a0:List zQ) (a2:Int):Option (List zQ):=(ck (a1+1)).bind λa3=>k2 a0 a2 a3
def N0 (p0:zH) (p3:Int) (a5:List zQ) (a2 a0:Int) (k2:List zQ->Int->Int->Option (List zQ)) (a6:Int):Option (List zQ):=(Jr a6 65536).bind λa7=>(ck (a7+65536)).bind λa8=>(Jr a8 65536).bind λa3=>(apd 32 a5 ([(zQ.mk p3 a3 p3 a3)])).bind λa1=>(gd (((p0.Kind==2)==true&&true)) (Qy p0.Count 2) 0).bind λa4=>(gd (((p0.Kind==3)==true&&((bif (p0.Kind==2) then (decide (a0>=a4)) else false)==false&&true))) (Jr a0 2) 0).bind λa9=>bif (bif (bif (p0.Kind==2) then (decide (a0>=a4)) else false) then true else (bif (p0.Kind==3) then (a9==1) else false)) then ((ck (a2+p0.Second)).bind λaA=>Pv a0 k2 a1 aA) else ((ck (a2+p0.First)).bind λaB=>Pv a0 k2 a1 aB)
def Ll (F:Nat) (p0:zH) (p1 p2 p3 p4:Int) (p5:List Int) (p6:Int) (k2:List zQ->Int->Int->Option (List zQ)) (a1:List zQ) (a2 a0:Int):Option (List zQ):=bif (decide (a0<p0.Count)) then ((ck (p1*65536)).bind λa5=>(ck (a5*a2)).bind λa6=>(ck (p2*500)).bind λa7=>(ck (a7*p0.Lambda)).bind λa8=>(Sj F a6 a8).bind λa3=>bif (decide ((p5.length:Int)>0)) then ((ck (p6+a0)).bind λa9=>(Jr a9 (p5.length:Int)).bind λaA=>(Av p5 aA).bind λa4=>(ck a4).bind λaB=>(ck (2*p4)).bind λaC=>(ck (aC-1)).bind λaD=>(Jr aB aD).bind λaE=>(ck (p4-1)).bind λaF=>(ck (aE-aF)).bind λaG=>(ck (a3+aG)).bind λaH=>N0 p0 p3 a1 a2 a0 k2 aH) else (N0 p0 p3 a1 a2 a0 k2 a3)) else (Ry a1)
def Jo (F:Nat) (p0:zH) (p1 p2 p3 p4:Int) (p5:List Int) (p6:Int):Nat->List zQ->Int->Int->Option (List zQ)
  | 0,_,_,_=>none
  | n+1,a0,a1,a2=>Ll F p0 p1 p2 p3 p4 p5 p6 (Jo F p0 p1 p2 p3 p4 p5 p6 n) a0 a1 a2
def Ve (F:Nat) (p0:zH) (p1 p2 p3 p4:Int) (p5:List Int) (p6:Int):Option (List zQ):=Jo F p0 p1 p2 p3 p4 p5 p6 F ([]) 0 0
def Nx (a1:Int) (a0:List (List zD)):Option (zJ×Bool):=some ((zJ.mk (zX.mk (⟨#[115]⟩:ByteArray) 0 0 0 1 a1 500 0) 0 0 a0),true)
def Kt (a1:Int) (k2:List (List zD)->Int->Option (zJ×Bool)) (a0:List (List zD)):Option (zJ×Bool):=(ck (a1+1)).bind λa2=>k2 a0 a2
def F9 (a0:List (List zD)) (a3:Int) (k2:List (List zD)->Int->Option (zJ×Bool)) (a1:List zD):Option (zJ×Bool):=(apd 24 a0 ([a1])).bind λa2=>Kt a3 k2 a2
def E0 (F:Nat) (p0:zW) (a2:zH) (a9:Int) (a3:List zD) (a5:Int) (k5:List zD->Int->Option (zJ×Bool)) (a1 a6:Int):Option (zJ×Bool):=(ck (7*a1)).bind λa7=>(Ht F p0 a1).bind λaA=>(Ea F p0).bind λaB=>(Ve F a2 aA 1 a6 aB p0.Slips a7).bind λaC=>(Tg F a2 (zV.mk 0 a9 (zA.mk 0 0)) aC).bind λa0=>bif (a0.2 != 0) then (none) else ((apd 112 a3 ([(zD.mk a0.1.Kind (zA.mk a0.1.Power.Lo a0.1.Power.Hi) ((zA.mk a0.1.Steps.1.Lo a0.1.Steps.1.Hi),(zA.mk a0.1.Steps.2.Lo a0.1.Steps.2.Hi)) a0.1.Spread (zA.mk a0.1.Ratio.Lo a0.1.Ratio.Hi) (zA.mk a0.1.Match.Lo a0.1.Match.Hi) (zA.mk a0.1.Turn.Lo a0.1.Turn.Hi))])).bind λa4=>(ck (a5+1)).bind λa8=>k5 a4 a8)
def Dz (F:Nat) (p0:zW) (a5:zH) (a3 a6:Int) (a7:List (List zD)) (a4:Int) (k2:List (List zD)->Int->Option (zJ×Bool)) (k5:List zD->Int->Option (zJ×Bool)) (a1:List zD) (a0:Int):Option (zJ×Bool):=bif (decide (a0<a3)) then ((ck (a4*a3)).bind λa9=>(ck (a9+a0)).bind λa2=>bif (decide ((p0.Loud.length:Int)>0)) then ((Jr a2 (p0.Loud.length:Int)).bind λaA=>(Av p0.Loud aA).bind λa8=>(ck a8).bind λaB=>(Jr aB 20).bind λaC=>E0 F p0 a5 a6 a1 a0 k5 a2 aC) else (E0 F p0 a5 a6 a1 a0 k5 a2 9)) else (F9 a7 a4 k2 a1)
def Da (F:Nat) (p0:zW) (a3:zH) (a1 a4:Int) (a0:List (List zD)) (a2:Int) (k2:List (List zD)->Int->Option (zJ×Bool)):Nat->List zD->Int->Option (zJ×Bool)
  | 0,_,_=>none
  | n+1,a5,a6=>Dz F p0 a3 a1 a4 a0 a2 k2 (Da F p0 a3 a1 a4 a0 a2 k2 n) a5 a6
def Dy (F:Nat) (p0:zW) (a3:zH) (a1 a4:Int) (k2:List (List zD)->Int->Option (zJ×Bool)) (a0:List (List zD)) (a2:Int):Option (zJ×Bool):=bif (decide (a2<4)) then (Da F p0 a3 a1 a4 a0 a2 k2 F ([]) 0) else (Nx a1 a0)
def E2 (F:Nat) (p0:zW) (a1:zH) (a0 a2:Int):Nat->List (List zD)->Int->Option (zJ×Bool)
  | 0,_,_=>none
  | n+1,a3,a4=>Dy F p0 a1 a0 a2 (E2 F p0 a1 a0 a2 n) a3 a4
def Hu (F:Nat) (p0:zW):Option (zJ×Bool):=(G6 F p0).bind λa3=>(ck p0.Gates).bind λa0=>(Jr a0 3).bind λa1=>(ck (1+a1)).bind λa2=>(Ea F p0).bind λa4=>E2 F p0 a3 a2 a4 F ([]) 0
def Bk (p0 p1 p2:Int):Bool:=bif (decide (p1<=p0)) then (decide (p0<=p2)) else false
def Hm (c4:Bool):Option Int:=bif c4 then (some 3) else (some 0)
def Hl (p0:zX) (c3:Bool):Option Int:=bif c3 then (some 3) else (bif (!(Bk p0.Rose 1 90)) then (Hm (!(Bk p0.Rose 1 90))) else (bif (!(Bk p0.Gates 1 200)) then (Hm (!(Bk p0.Gates 1 200))) else (bif (!(Bk p0.Step 50 2000)) then (Hm (!(Bk p0.Step 50 2000))) else (Hm (!(Bk p0.Width 0 8))))))
def Nd (F:Nat) (p0:zX):Option Int:=(beam_Name F p0.Name).bind λy2=>bif (!y2) then (some 10) else (bif (!(Bk p0.X (-1048576) 1048576)) then (Hl p0 (!(Bk p0.X (-1048576) 1048576))) else (bif (!(Bk p0.Y (-1048576) 1048576)) then (Hl p0 (!(Bk p0.Y (-1048576) 1048576))) else (Hl p0 (!(Bk p0.Z 0 20000)))))
def Ri:Option Bool:=some true
def F7 (p0:List zA) (k2:Int->Option Bool) (a1:Int):Option Bool:=bif (decide (a1<(p0.length:Int))) then ((Av p0 a1).bind λa0=>(gd (((!(Ag a0.Lo (-32768) 32767))==false&&true)) (ck (a0.Lo+65536)) 0).bind λa2=>(gd (((!(Ag a0.Lo (-32768) 32767))==false&&true)) (ck (a2-1)) 0).bind λa3=>bif (bif (!(Ag a0.Lo (-32768) 32767)) then true else (!(Ag a0.Hi a0.Lo a3))) then (some false) else ((ck (a1+1)).bind λa4=>k2 a4)) else (Ri)
def Gp (p0:List zA):Nat->Int->Option Bool
  | 0,_=>none
  | n+1,a0=>F7 p0 (Gp p0 n) a0
def Rw (F:Nat) (p0:List zA):Option Bool:=Gp p0 F 0
def Dw (c7:Bool):Option Int:=bif (!c7) then (some 3) else (some 0)
def K6 (F:Nat) (p0:zD) (c9:Bool):Option Int:=bif c9 then (bif (p0.Kind==2) then (Dw (bif (bif (bif (bif (bif (bif (Aq p0.Power 0 1073741824) then (decide (p0.Power.Lo>0)) else false) then (Aq p0.Ratio 0 1000000) else false) then (Aq p0.Match 0 1000) else false) then (Ag p0.Spread 0 65535) else false) then ((((p0.Steps.1.Lo:Int)==0)&&(((p0.Steps.1.Hi:Int)==0)&&true))&&((((p0.Steps.2.Lo:Int)==0)&&(((p0.Steps.2.Hi:Int)==0)&&true))&&true)) else false) then (((p0.Turn.Lo:Int)==0)&&(((p0.Turn.Hi:Int)==0)&&true)) else false)) else (bif (bif (bif (bif (bif (Aq p0.Power 0 1073741824) then (decide (p0.Power.Lo>0)) else false) then (Aq p0.Ratio 0 1000000) else false) then (Aq p0.Match 0 1000) else false) then (Ag p0.Spread 0 65535) else false) then ((Rw F ([(zA.mk p0.Steps.1.Lo p0.Steps.1.Hi),(zA.mk p0.Steps.2.Lo p0.Steps.2.Hi),p0.Turn])).bind λa0=>Dw a0) else (Dw false))) else (some 2)
def Mp (F:Nat) (p0:zD):Option Int:=bif (p0.Kind==1) then (Dw (bif (Aq p0.Power 0 1073741824) then (((p0.Kind:Int)==1)&&((((p0.Power.Lo:Int)==0)&&(((p0.Power.Hi:Int)==p0.Power.Hi)&&true))&&(((((p0.Steps.1.Lo:Int)==0)&&(((p0.Steps.1.Hi:Int)==0)&&true))&&((((p0.Steps.2.Lo:Int)==0)&&(((p0.Steps.2.Hi:Int)==0)&&true))&&true))&&(((p0.Spread:Int)==0)&&((((p0.Ratio.Lo:Int)==0)&&(((p0.Ratio.Hi:Int)==0)&&true))&&((((p0.Match.Lo:Int)==0)&&(((p0.Match.Hi:Int)==0)&&true))&&((((p0.Turn.Lo:Int)==0)&&(((p0.Turn.Hi:Int)==0)&&true))&&true))))))) else false)) else (bif (p0.Kind==2) then (K6 F p0 (p0.Kind==2)) else (K6 F p0 (p0.Kind==3)))
def Pb:Option Int:=some 0
def Ja (a0:Int) (k3:Int->Option Int):Option Int:=(ck (a0+1)).bind λa1=>k3 a1
def Ei (F:Nat) (a4:Int) (k3:Int->Option Int) (a2:List zD) (k5:Int->Option Int) (a1:Int):Option Int:=bif (decide (a1<(a2.length:Int))) then ((Av a2 a1).bind λa0=>(Mp F (zD.mk a0.Kind a0.Power ((zA.mk a0.Steps.1.Lo a0.Steps.1.Hi),(zA.mk a0.Steps.2.Lo a0.Steps.2.Hi)) a0.Spread a0.Ratio a0.Match a0.Turn)).bind λa3=>bif (a3 != 0) then (some a3) else ((ck (a1+1)).bind λa5=>k5 a5)) else (Ja a4 k3)
def Ek (F:Nat) (a1:Int) (k3:Int->Option Int) (a0:List zD):Nat->Int->Option Int
  | 0,_=>none
  | n+1,a2=>Ei F a1 k3 a0 (Ek F a1 k3 a0 n) a2
def Eh (F:Nat) (p0:zJ) (k3:Int->Option Int) (a0:Int):Option Int:=bif (decide (a0<(p0.Rays.length:Int))) then ((Av p0.Rays a0).bind λa1=>Ek F a0 k3 a1 F 0) else (Pb)
def Dm (F:Nat) (p0:zJ):Nat->Int->Option Int
  | 0,_=>none
  | n+1,a0=>Eh F p0 (Dm F p0 n) a0
def Pa (F:Nat) (p0:zJ):Option Int:=Dm F p0 F 0
def Ej (F:Nat) (p0:zJ) (k6:Int->Option Int) (a0:Int):Option Int:=bif (decide (a0<(p0.Rays.length:Int))) then ((Av p0.Rays a0).bind λa1=>bif ((a1.length:Int) != p0.Site.Gates) then (some 11) else ((ck (a0+1)).bind λa2=>k6 a2)) else (Pa F p0)
def El (F:Nat) (p0:zJ):Nat->Int->Option Int
  | 0,_=>none
  | n+1,a0=>Ej F p0 (El F p0 n) a0
def D3 (F:Nat) (p0:zJ):Option Int:=(Nd F p0.Site).bind λy6=>bif (y6 != 0) then (some y6) else (bif (bif (!(Ag p0.Tilt 0 256)) then true else (!(Ag p0.Time 0 4294967296))) then (some 3) else ((ck (4*p0.Site.Rose)).bind λx7=>bif ((p0.Rays.length:Int) != x7) then (some 11) else (El F p0 F 0)))
def T2 (F:Nat) (p0:zJ):Option zN:=(ck ((p0.Rays.length:Int)*p0.Site.Gates)).bind λx6=>some (zN.mk p0 x6 ([]:List (ByteArray×(List Int))) ([]:List (ByteArray×(List zG))))
def Hj (F:Nat) (self_:zC->Option ByteArray) (p0:zC):Option ByteArray:=(A4u Cf p0.Op).bind λu6=>bif (p0.Op==14) then ((strconv_Itoa F p0.Value_).bind λy7=>some y7) else (bif (p0.Op==3) then (none) else (bif ((p0.Args.length:Int)==1) then ((Jd u6 (⟨#[32]⟩:ByteArray)).bind λs8=>(strconv_Itoa F p0.Rays).bind λy9=>(Jd s8 y9).bind λa1=>(Jd a1 (⟨#[32]⟩:ByteArray)).bind λa2=>(strconv_Itoa F p0.Gates).bind λaE=>(Jd a2 aE).bind λa3=>(Jd a3 (⟨#[32]⟩:ByteArray)).bind λa4=>(Av p0.Args 0).bind λaB=>(self_ aB).bind λaF=>(Jd a4 aF).bind λa5=>some a5) else (bif ((p0.Args.length:Int)==0) then (some u6) else ((Av p0.Args 0).bind λaC=>(self_ aC).bind λaG=>(Jd aG (⟨#[32]⟩:ByteArray)).bind λa6=>(Jd a6 u6).bind λa7=>(Jd a7 (⟨#[32]⟩:ByteArray)).bind λa8=>(Av p0.Args 1).bind λaD=>(self_ aD).bind λaH=>(Jd a8 aH).bind λa0=>bif (decide (p0.Op<14)) then ((Jd (⟨#[40]⟩:ByteArray) a0).bind λa9=>(Jd a9 (⟨#[41]⟩:ByteArray)).bind λaA=>some aA) else (some a0)))))
def M3:Nat->zC->Option ByteArray
  | 0,_=>none
  | F+1,p0=>Hj F (M3 F) p0
def Ho (F:Nat) (p0:Int) (c0_:zC) (c1_ c2_:List Int):Option Int:=bif (c0_.Op==4) then ((Av c1_ p0).bind λa0=>(Av c2_ p0).bind λa1=>some (if a1>a0 then a1 else a0)) else ((Av c1_ p0).bind λa2=>(Av c2_ p0).bind λa3=>some (if a3<a2 then a3 else a2))
def Fy {σ:Type} (a1:Int) (k2:Int->σ->Option (σ×Bool)) (a0:σ):Option (σ×Bool):=(ck (a1+1)).bind λa2=>k2 a2 a0
def De {σ:Type} (body:σ->Int->Option (σ×Bool)) (c1_ c3_:Int) (d3:zN) (a7 a3:Int) (k2 k4:Int->σ->Option (σ×Bool)) (a0:Int) (a2:σ):Option (σ×Bool):=(ck (d3.s.Site.Gates-1)).bind λa4=>(ck (a7+c3_)).bind λa5=>bif (decide (a0<=(if a5<a4 then a5 else a4))) then ((ck (a3+(d3.s.Rays.length:Int))).bind λa8=>(Jr a8 (d3.s.Rays.length:Int)).bind λa9=>(ck (a9*d3.s.Site.Gates)).bind λaA=>(ck (aA+a0)).bind λa6=>bif (a6 != c1_) then ((body a2 a6).bind λa1=>bif a1.2 then ((ck (a0+1)).bind λaB=>k4 aB a1.1) else (some (a1.1,false))) else ((ck (a0+1)).bind λaC=>k4 aC a2)) else (Fy a3 k2 a2)
def E6 {σ:Type} (body:σ->Int->Option (σ×Bool)) (c1_ c3_:Int) (d3:zN) (a0 a1:Int) (k2:Int->σ->Option (σ×Bool)):Nat->Int->σ->Option (σ×Bool)
  | 0,_,_=>none
  | n+1,a3,a2=>De body c1_ c3_ d3 a0 a1 k2 (E6 body c1_ c3_ d3 a0 a1 k2 n) a3 a2
def Dd {σ:Type} (F:Nat) (body:σ->Int->Option (σ×Bool)) (c1_ c3_:Int) (d3:zN) (a1 a4:Int) (k2:Int->σ->Option (σ×Bool)) (a2:Int) (a0:σ):Option (σ×Bool):=bif (decide (a2<=a4)) then ((ck (a1-c3_)).bind λa3=>E6 body c1_ c3_ d3 a1 a2 k2 F (if a3>0 then a3 else 0) a0) else (some (a0,true))
def Df {σ:Type} (F:Nat) (body:σ->Int->Option (σ×Bool)) (c1_ c3_:Int) (d3:zN) (a0 a1:Int):Nat->Int->σ->Option (σ×Bool)
  | 0,_,_=>none
  | n+1,a3,a2=>Dd F body c1_ c3_ d3 a0 a1 (Df F body c1_ c3_ d3 a0 a1 n) a3 a2
def Fx {σ:Type} (F:Nat) (body:σ->Int->Option (σ×Bool)) (s_:σ) (c1_ c3_:Int) (d3:zN) (a0 a1 a2:Int):Option (σ×Bool):=Df F body c1_ c3_ d3 a0 a2 F a1 s_
def J8 {σ:Type} (F:Nat) (c0_:Option zN) (c1_ c2_ c3_:Int) (body:σ->Int->Option (σ×Bool)) (s_:σ):Option (σ×Bool):=(c0_).bind λd3=>(Qy c1_ d3.s.Site.Gates).bind λa0=>(Jr c1_ d3.s.Site.Gates).bind λa1=>(ck (a0-c2_)).bind λa2=>(ck (a0+c2_)).bind λa3=>(ck (a3-a2)).bind λa4=>bif (decide (a4>=(d3.s.Rays.length:Int))) then ((ck ((d3.s.Rays.length:Int)-1)).bind λa5=>Fx F body s_ c1_ c3_ d3 a1 0 a5) else (Fx F body s_ c1_ c3_ d3 a1 a2 a3)
def U0 (p0:Option zN) (p1 p2 p3:Int):Unit:=()
def Ad (p0:Int):zG:=(zG.mk (zA.mk p0 p0) true)
def Gn (F:Nat) (p0:Int) (c0_:Option zN) (c1_:zC):Option zG:=(c0_).bind λd8=>(Qy p0 d8.s.Site.Gates).bind λa2=>(Av d8.s.Rays a2).bind λa1=>(Jr p0 d8.s.Site.Gates).bind λa3=>(Av a1 a3).bind λa0=>bif (c1_.Op==14) then (some (Ad c1_.Value_)) else (bif (c1_.Op==21) then (some (Ad a0.Kind)) else (bif (c1_.Op==22) then ((Qy p0 d8.s.Site.Gates).bind λa4=>some (Ad a4)) else (bif (c1_.Op==23) then ((Jr p0 d8.s.Site.Gates).bind λa5=>some (Ad a5)) else (bif (c1_.Op==24) then (none) else (bif (c1_.Op==15) then (some (zG.mk a0.Power true)) else (bif (a0.Kind==1) then (some (zG.mk (zA.mk 0 0) false)) else (bif (c1_.Op==16) then (none) else (bif (c1_.Op==17) then (none) else (bif (c1_.Op==18) then (some (Ad a0.Spread)) else (bif (a0.Kind==2) then (some (zG.mk (zA.mk 0 0) false)) else (bif (c1_.Op==19) then (none) else (none))))))))))))
def Ji (a0:List zG):Option (List zG):=some a0
def Jh (F:Nat) (c1_0_:Option zN) (c1_1_:zC) (k2:Int->Int->List zG->Option (List zG)) (a2 a0:Int) (a1:List zG):Option (List zG):=bif (decide (a0<a2)) then ((Gn F a0 c1_0_ c1_1_).bind λa5=>(Av a1 a0).bind λa6=>(Ka a1 a0 a5).bind λa3=>(ck (a0+1)).bind λa4=>k2 a2 a4 a3) else (Ji a1)
def Cw (F:Nat) (c1_0_:Option zN) (c1_1_:zC):Nat->Int->Int->List zG->Option (List zG)
  | 0,_,_,_=>none
  | n+1,a1,a2,a0=>Jh F c1_0_ c1_1_ (Cw F c1_0_ c1_1_ n) a1 a2 a0
def Gz (F:Nat) (p0:Int) (c1_0_:Option zN) (c1_1_:zC):Option (List zG):=(mkI 24 p0 (zG.mk (zA.mk 0 0) false)).bind λl8=>Cw F c1_0_ c1_1_ F (l8.length:Int) 0 l8
def Jq (F:Nat) (p0:Option zN) (p1:zC):Option (List zG):=(p0).bind λd9=>(Gz F d9.n (some (zN.mk d9.s d9.n ([]:(List (ByteArray×(List Int)))) ([]:(List (ByteArray×(List zG)))))) p1).bind λa0=>some a0
def Gh (c2_:List Int) (s_r:Int×Int×Nat) (x_ a0:Int):Option ((Int×Int×Nat)×Bool):=(Av c2_ x_).bind λa1=>bif (a1 != 3) then ((ck (s_r.2.1+1)).bind λa2=>some ((a0,a2,0),true)) else (some ((a0,s_r.2.1,0),true))
def Gi (c2_:List Int) (s_r:Int×Int×Nat) (x_:Int):Option ((Int×Int×Nat)×Bool):=(Av c2_ x_).bind λa0=>bif (a0==1) then ((ck (s_r.1+1)).bind λa1=>Gh c2_ s_r x_ a1) else (Gh c2_ s_r x_ s_r.1)
def N7 (tg_:Nat):Code:=.ret
def Gm (F:Nat) (p0:Int) (c0_:Option zN) (c1_:zC) (c2_:List Int):Option zG:=(J8 F c0_ p0 c1_.Rays c1_.Gates (Gi c2_) (0,0,0)).bind λa0=>bif a0.2 then (some (zG.mk (zA.mk a0.1.1 a0.1.2.1) true)) else (none)
def D2 (a0 a1:Bool):Option Int:=bif a0 then (some 1) else (bif a1 then (some 2) else (some 3))
def Hq (c2_:zC) (a0 a1 a2 a3:Int) (a4:Bool):Option Int:=bif a4 then (none) else (bif (c2_.Op==12) then (D2 ((if a3>a1 then a3 else a1)==(if a2<a0 then a2 else a0)) (bif (decide (a0<=a3)) then (decide (a2<=a1)) else false)) else (bif (c2_.Op==13) then (none) else (D2 false false)))
def Hp (c2_:zC) (a0 a1 a2 a3:Int) (a4:Bool):Option Int:=bif a4 then (D2 (decide (a1<a2)) (decide (a0<a3))) else (bif (c2_.Op==9) then (Hq c2_ a0 a1 a2 a3 (c2_.Op==9)) else (Hq c2_ a0 a1 a2 a3 (c2_.Op==11)))
def F4 (c2_:zC) (a0 a1 a2 a3:Int):Option Int:=bif (c2_.Op==8) then (Hp c2_ a0 a1 a2 a3 (c2_.Op==8)) else (Hp c2_ a0 a1 a2 a3 (c2_.Op==10))
def F3 (F:Nat) (p0:Int) (c0_ c1_:List zG) (c2_:zC):Option Int:=(Av c0_ p0).bind λa2=>(gd (((!a2.has)==false&&true)) (Av c1_ p0) default).bind λa3=>bif (bif (!a2.has) then true else (!a3.has)) then (some 3) else ((Av c0_ p0).bind λa0=>(Av c1_ p0).bind λa1=>bif (bif (c2_.Op==10) then true else (c2_.Op==11)) then (F4 c2_ a1.span.Lo a1.span.Hi a0.span.Lo a0.span.Hi) else (F4 c2_ a0.span.Lo a0.span.Hi a1.span.Lo a1.span.Hi))
abbrev Bi:=zN->zC->Option ((List Int)×zN)
abbrev Bf:=zN->zC->Option ((List zG)×zN)
def Mg (a0:List Int):Option (List Int):=some a0
def Mf (F:Nat) (c1_0_:zC) (c1_1_ c1_2_:List Int) (k2:Int->Int->List Int->Option (List Int)) (a2 a0:Int) (a1:List Int):Option (List Int):=bif (decide (a0<a2)) then ((Ho F a0 c1_0_ c1_1_ c1_2_).bind λa5=>(Av a1 a0).bind λa6=>(Ka a1 a0 a5).bind λa3=>(ck (a0+1)).bind λa4=>k2 a2 a4 a3) else (Mg a1)
def E8 (F:Nat) (c1_0_:zC) (c1_1_ c1_2_:List Int):Nat->Int->Int->List Int->Option (List Int)
  | 0,_,_,_=>none
  | n+1,a1,a2,a0=>Mf F c1_0_ c1_1_ c1_2_ (E8 F c1_0_ c1_1_ c1_2_ n) a1 a2 a0
def Ln (F:Nat) (s24_:Bi) (s103_:Bf) (p0:Int) (c1_0_:zC) (c1_1_ c1_2_:List Int):Option (List Int):=(mkI 8 p0 0).bind λa0=>E8 F c1_0_ c1_1_ c1_2_ F (a0.length:Int) 0 a0
def Km (F:Nat) (s24_:Bi) (s103_:Bf) (p0:zN) (p1:zC):Option ((List Int)×zN):=(Av p1.Args 0).bind λa2=>(Av p1.Args 1).bind λa3=>(s24_ p0 a2).bind λa0=>(s24_ (zN.mk p0.s p0.n a0.2.tests a0.2.values) a3).bind λa1=>(Ln F s24_ s103_ p0.n p1 a0.1 a1.1).bind λa4=>some (a4,(zN.mk p0.s p0.n a1.2.tests a1.2.values))
def Mi (a0:List Int):Option (List Int):=some a0
def Mh (F:Nat) (c1_0_ c1_1_:List zG) (c1_2_:zC) (k2:Int->Int->List Int->Option (List Int)) (a2 a0:Int) (a1:List Int):Option (List Int):=bif (decide (a0<a2)) then ((F3 F a0 c1_0_ c1_1_ c1_2_).bind λa5=>(Av a1 a0).bind λa6=>(Ka a1 a0 a5).bind λa3=>(ck (a0+1)).bind λa4=>k2 a2 a4 a3) else (Mi a1)
def E9 (F:Nat) (c1_0_ c1_1_:List zG) (c1_2_:zC):Nat->Int->Int->List Int->Option (List Int)
  | 0,_,_,_=>none
  | n+1,a1,a2,a0=>Mh F c1_0_ c1_1_ c1_2_ (E9 F c1_0_ c1_1_ c1_2_ n) a1 a2 a0
def Lp (F:Nat) (s24_:Bi) (s103_:Bf) (p0:Int) (c1_0_ c1_1_:List zG) (c1_2_:zC):Option (List Int):=(mkI 8 p0 0).bind λa0=>E9 F c1_0_ c1_1_ c1_2_ F (a0.length:Int) 0 a0
def Ez (F:Nat) (s24_:Bi) (s103_:Bf) (p0:zN) (p1:zC):Option ((List Int)×zN):=(Av p1.Args 0).bind λa2=>(Av p1.Args 1).bind λa3=>(s103_ p0 a2).bind λa0=>(s103_ (zN.mk p0.s p0.n a0.2.tests a0.2.values) a3).bind λa1=>(Lp F s24_ s103_ p0.n a0.1 a1.1 p1).bind λa4=>some (a4,(zN.mk p0.s p0.n a1.2.tests a1.2.values))
def Jk (a0:List zG):Option (List zG):=some a0
def Jj (F:Nat) (c1_0_:Option zN) (c1_1_:zC) (c1_2_:List Int) (k2:Int->Int->List zG->Option (List zG)) (a2 a0:Int) (a1:List zG):Option (List zG):=bif (decide (a0<a2)) then ((Gm F a0 c1_0_ c1_1_ c1_2_).bind λa5=>(Av a1 a0).bind λa6=>(Ka a1 a0 a5).bind λa3=>(ck (a0+1)).bind λa4=>k2 a2 a4 a3) else (Jk a1)
def Cx (F:Nat) (c1_0_:Option zN) (c1_1_:zC) (c1_2_:List Int):Nat->Int->Int->List zG->Option (List zG)
  | 0,_,_,_=>none
  | n+1,a1,a2,a0=>Jj F c1_0_ c1_1_ c1_2_ (Cx F c1_0_ c1_1_ c1_2_ n) a1 a2 a0
def H0 (F:Nat) (s24_:Bi) (s103_:Bf) (p0:Int) (c1_0_:Option zN) (c1_1_:zC) (c1_2_:List Int):Option (List zG):=(mkI 24 p0 (zG.mk (zA.mk 0 0) false)).bind λa0=>Cx F c1_0_ c1_1_ c1_2_ F (a0.length:Int) 0 a0
def Lu (F:Nat) (s24_:Bi) (s103_:Bf) (p0:zN) (p1:zC):Option ((List zG)×zN):=(Av p1.Args 0).bind λa1=>(s24_ p0 a1).bind λa0=>(H0 F s24_ s103_ p0.n (some (zN.mk p0.s p0.n a0.2.tests a0.2.values)) p1 a0.1).bind λa2=>some (a2,(zN.mk p0.s p0.n a0.2.tests a0.2.values))
def Fz (F:Nat) (s24_:Bi) (s103_:Bf) (p0:zN) (p1:zC):Option ((List Int)×zN):=(M3 F p1).bind λa0=>bif ((lkM p0.tests a0).isSome) then (some (((lkM p0.tests a0).getD []),p0)) else (bif (p1.Op==4) then ((Km F s24_ s103_ p0 p1).bind λa1=>some (a1.1,(zN.mk p0.s p0.n (upM a1.2.tests a0 a1.1) a1.2.values))) else (bif (p1.Op==5) then ((Km F s24_ s103_ p0 p1).bind λa2=>some (a2.1,(zN.mk p0.s p0.n (upM a2.2.tests a0 a2.1) a2.2.values))) else (bif (p1.Op==8) then ((Ez F s24_ s103_ p0 p1).bind λa3=>some (a3.1,(zN.mk p0.s p0.n (upM a3.2.tests a0 a3.1) a3.2.values))) else (bif (p1.Op==10) then ((Ez F s24_ s103_ p0 p1).bind λa4=>some (a4.1,(zN.mk p0.s p0.n (upM a4.2.tests a0 a4.1) a4.2.values))) else (bif (p1.Op==12) then ((Ez F s24_ s103_ p0 p1).bind λa5=>some (a5.1,(zN.mk p0.s p0.n (upM a5.2.tests a0 a5.1) a5.2.values))) else (none))))))
def F1 (F:Nat) (s24_:Bi) (s103_:Bf) (p0:zN) (p1:zC):Option ((List zG)×zN):=(M3 F p1).bind λa0=>bif ((lkM p0.values a0).isSome) then (some (((lkM p0.values a0).getD []),p0)) else (bif (p1.Op==25) then ((Lu F s24_ s103_ p0 p1).bind λa1=>some (a1.1,(zN.mk p0.s p0.n a1.2.tests (upM a1.2.values a0 a1.1)))) else (bif (p1.Op==26) then (bif (p1.Op==26) then (none) else ((Jq F (some p0) p1).bind λa2=>some (a2,(zN.mk p0.s p0.n p0.tests (upM p0.values a0 a2))))) else (bif (p1.Op==27) then (none) else ((Jq F (some p0) p1).bind λa3=>some (a3,(zN.mk p0.s p0.n p0.tests (upM p0.values a0 a3)))))))
def Ay:Nat->Bi×Bf
  | 0=>(λ_ _=>none,λ_ _=>none)
  | F+1=>(Fz F (Ay F).1 (Ay F).2,F1 F (Ay F).1 (Ay F).2)
def Sm (F:Nat):Bi:=(Ay F).1
def Zq (F:Nat):Bf:=(Ay F).2
def U9 (a0:List (List zP)):Option ((List (List zP))×Int):=some (a0,0)
def Pr (a1:Int) (k3:List (List zP)->Int->Option ((List (List zP))×Int)) (a0:List (List zP)):Option ((List (List zP))×Int):=(ck (a1+1)).bind λa2=>k3 a0 a2
def Rx (a1:Int) (k5:List (List zP)->Int->Option ((List (List zP))×Int)) (a0:List (List zP)):Option ((List (List zP))×Int):=(ck (a1+1)).bind λa2=>k5 a0 a2
def My (a1:Int) (a0:List (List zP)) (a6:Int) (k5:List (List zP)->Int->Option ((List (List zP))×Int)) (a7:Int) (a2:List Int):Option ((List (List zP))×Int):=(Av a0 a1).bind λa5=>(apd 32 a5 ([(zP.mk a7 a2)])).bind λa3=>(Av a0 a1).bind λa8=>(Ka a0 a1 a3).bind λa4=>Rx a6 k5 a4
def Ps (a1:Int) (k8:List Int->Int->Option ((List (List zP))×Int)) (a0:List Int):Option ((List (List zP))×Int):=(ck (a1+1)).bind λa2=>k8 a0 a2
def Lh (a4:List (List Int)) (a2:Int) (a8:List zD) (a5:List (List zP)) (a3:Int) (k5:List (List zP)->Int->Option ((List (List zP))×Int)) (k8:List Int->Int->Option ((List (List zP))×Int)) (a1:List Int) (a0:Int):Option ((List (List zP))×Int):=bif (decide (a0<(a4.length:Int))) then ((Av a4 a0).bind λa9=>(ck (a2*(a8.length:Int))).bind λaA=>(ck (aA+a3)).bind λaB=>(Av a9 aB).bind λa6=>bif (a6==1) then (My a2 a5 a3 k5 a0 a1) else (bif (a6==2) then ((apd 8 a1 ([a0])).bind λa7=>Ps a0 k8 a7) else (Ps a0 k8 a1))) else (My a2 a5 a3 k5 (-1) a1)
def Mz (a0:List (List Int)) (a3:Int) (a2:List zD) (a1:List (List zP)) (a4:Int) (k5:List (List zP)->Int->Option ((List (List zP))×Int)):Nat->List Int->Int->Option ((List (List zP))×Int)
  | 0,_,_=>none
  | n+1,a5,a6=>Lh a0 a3 a2 a1 a4 k5 (Mz a0 a3 a2 a1 a4 k5 n) a5 a6
def Lg (F:Nat) (a4:List (List Int)) (a2:Int) (k3:List (List zP)->Int->Option ((List (List zP))×Int)) (a1:List zD) (k5:List (List zP)->Int->Option ((List (List zP))×Int)) (a0:List (List zP)) (a3:Int):Option ((List (List zP))×Int):=bif (decide (a3<(a1.length:Int))) then (Mz a4 a2 a1 a0 a3 k5 F ([]) 0) else (Pr a2 k3 a0)
def Lj (F:Nat) (a0:List (List Int)) (a2:Int) (k3:List (List zP)->Int->Option ((List (List zP))×Int)) (a1:List zD):Nat->List (List zP)->Int->Option ((List (List zP))×Int)
  | 0,_,_=>none
  | n+1,a3,a4=>Lg F a0 a2 k3 a1 (Lj F a0 a2 k3 a1 n) a3 a4
def Lf (F:Nat) (p1:zJ) (a2:List (List Int)) (k3:List (List zP)->Int->Option ((List (List zP))×Int)) (a1:List (List zP)) (a0:Int):Option ((List (List zP))×Int):=bif (decide (a0<(p1.Rays.length:Int))) then ((Av p1.Rays a0).bind λa3=>Lj F a2 a0 k3 a3 F a1 0) else (U9 a1)
def Li (F:Nat) (p1:zJ) (a0:List (List Int)):Nat->List (List zP)->Int->Option ((List (List zP))×Int)
  | 0,_,_=>none
  | n+1,a1,a2=>Lf F p1 a0 (Li F p1 a0 n) a1 a2
def Pq (F:Nat) (p1:zJ) (a2:List (ByteArray×(List Int))) (a3:List (ByteArray×(List zG))) (a0:List (List Int)):Option ((List (List zP))×Int):=(mkI 24 (p1.Rays.length:Int) ([]:(List zP))).bind λa1=>Li F p1 a0 F a1 0
def Kb (F:Nat) (p0:List zR) (p1:zJ) (a5:zN) (a6:List (ByteArray×(List Int))->List (ByteArray×(List zG))->Int->List (List Int)->Option ((List (List zP))×Int)) (a2:List (ByteArray×(List Int))) (a3:List (ByteArray×(List zG))) (a0:Int) (a4:List (List Int)):Option ((List (List zP))×Int):=bif (decide (a0<(p0.length:Int))) then ((Av p0 a0).bind λa8=>(Sm F (zN.mk a5.s a5.n a2 a3) a8.When).bind λa1=>(apd 24 a4 ([a1.1])).bind λa7=>(ck (a0+1)).bind λa9=>a6 a1.2.tests a1.2.values a9 a7) else (Pq F p1 a2 a3 a4)
def M0 (F:Nat) (p0:List zR) (p1:zJ) (a0:zN):Nat->List (ByteArray×(List Int))->List (ByteArray×(List zG))->Int->List (List Int)->Option ((List (List zP))×Int)
  | 0,_,_,_,_=>none
  | n+1,a1,a2,a4,a3=>Kb F p0 p1 a0 (M0 F p0 p1 a0 n) a1 a2 a4 a3
def Qa (F:Nat) (p0:List zR) (p1:zJ):Option ((List (List zP))×Int):=(Q8 F p0).bind λa1=>bif (a1 != 0) then (none) else ((D3 F p1).bind λa2=>bif (a2 != 0) then (none) else ((T2 F p1).bind λa0=>M0 F p0 p1 a0 F a0.tests a0.values 0 ([])))
def D4 (F:Nat) (p0:List zD):Option (List zD):=(apd 112 ([]:List zD) p0).bind λl5=>some l5
def U8 (p1:zJ) (a0:List (List zD)):Option (zJ×Int):=some ((zJ.mk p1.Site p1.Tilt p1.Time a0),0)
def Po (a1:Int) (k2:Int->List (List zD)->Option (zJ×Int)) (a0:List (List zD)):Option (zJ×Int):=(ck (a1+1)).bind λa2=>k2 a2 a0
def Pp (a1:Int) (k4:Int->List (List zD)->Option (zJ×Int)) (a0:List (List zD)):Option (zJ×Int):=(ck (a1+1)).bind λa2=>k4 a2 a0
def Ld (a9:(List (List zP))×Int) (a2:Int) (k2:Int->List (List zD)->Option (zJ×Int)) (a6:List zD) (k4:Int->List (List zD)->Option (zJ×Int)) (a0:Int) (a1:List (List zD)):Option (zJ×Int):=bif (decide (a0<(a6.length:Int))) then ((Av a9.1 a2).bind λa7=>(Av a7 a0).bind λa8=>bif (decide (a8.Rule>=0)) then ((Av a1 a2).bind λa3=>(Av a3 a0).bind λaA=>(Ka a3 a0 (zD.mk 1 (zA.mk 0 0) ((zA.mk 0 0),(zA.mk 0 0)) 0 (zA.mk 0 0) (zA.mk 0 0) (zA.mk 0 0))).bind λa4=>(Ka a1 a2 a4).bind λa5=>Pp a0 k4 a5) else (Pp a0 k4 a1)) else (Po a2 k2 a1)
def Mx (a2:(List (List zP))×Int) (a1:Int) (k2:Int->List (List zD)->Option (zJ×Int)) (a0:List zD):Nat->Int->List (List zD)->Option (zJ×Int)
  | 0,_,_=>none
  | n+1,a4,a3=>Ld a2 a1 k2 a0 (Mx a2 a1 k2 a0 n) a4 a3
def Lc (F:Nat) (p1:zJ) (a4:(List (List zP))×Int) (k2:Int->List (List zD)->Option (zJ×Int)) (a0:Int) (a1:List (List zD)):Option (zJ×Int):=bif (decide (a0<(p1.Rays.length:Int))) then ((Av p1.Rays a0).bind λa2=>(D4 F a2).bind λa5=>(Av a1 a0).bind λa6=>(Ka a1 a0 a5).bind λa3=>Mx a4 a0 k2 a2 F 0 a3) else (U8 p1 a1)
def Le (F:Nat) (p1:zJ) (a0:(List (List zP))×Int):Nat->Int->List (List zD)->Option (zJ×Int)
  | 0,_,_=>none
  | n+1,a2,a1=>Lc F p1 a0 (Le F p1 a0 n) a2 a1
def Q9 (F:Nat) (p0:List zR) (p1:zJ):Option (zJ×Int):=(Qa F p0 p1).bind λa0=>bif (a0.2 != 0) then (none) else ((mkI 24 (p1.Rays.length:Int) ([]:(List zD))).bind λa1=>Le F p1 a0 F 0 a1)
def Rf (p0:Int):Bool:=bif (decide (p0>=1)) then (decide (p0<=200000)) else false
def Je (p0 p1:Int):Int:=bif (bif (bif (bif (decide (p0<0)) then true else (decide (p0>400000))) then true else (decide (p1<1))) then true else (decide (p1>16))) then (3) else (0)
def Ac (p0 p1:zA):(zA×Bool):=((zA.mk (if p1.Lo>p0.Lo then p1.Lo else p0.Lo) (if p1.Hi<p0.Hi then p1.Hi else p0.Hi)),decide ((if p1.Lo>p0.Lo then p1.Lo else p0.Lo)<=(if p1.Hi<p0.Hi then p1.Hi else p0.Hi)))
def Lv (F:Nat) (p0:zH) (p1:Int):Option (Int×Int):=(F6 F p0).bind λy2=>bif (y2 != 0) then (some (0,y2)) else (bif (!(Ag p1 0 1)) then (bif (bif (!(Ag p1 0 1)) then true else (0==0)) then (some (0,2)) else (bif (p1==0) then (some (p0.First,0)) else (bif (p1==1) then (some (p0.Second,0)) else (none)))) else (bif (p1==0) then (bif (bif (!(Ag p1 0 1)) then true else (p0.First==0)) then (some (0,2)) else (some (p0.First,0))) else (bif (p1==1) then (bif (bif (!(Ag p1 0 1)) then true else (p0.Second==0)) then (some (0,2)) else (some (p0.Second,0))) else (none))))
def Md (F:Nat) (p0:Int) (c0_:zH) (c1_ c2_:Int):Option Int:=(ck (500*c0_.Lambda)).bind λx1=>(ck (c1_*65536)).bind λx2=>(ck (p0+x2)).bind λx3=>(ck (x1*x3)).bind λx4=>(ck (65536*c2_)).bind λx5=>(L8 F x4 x5).bind λy6=>some y6
def Me (F:Nat) (p0:Int) (c0_:zH) (c1_ c2_:Int):Option Int:=(ck (500*c0_.Lambda)).bind λx1=>(ck (c1_*65536)).bind λx2=>(ck (p0+x2)).bind λx3=>(ck (x1*x3)).bind λx4=>(ck (65536*c2_)).bind λx5=>(Pn F x4 x5).bind λy6=>some y6
def Qg (F:Nat) (p0:zH) (p1:Int) (p2:zA) (p3:Int):Option (zA×Int):=(Lv F p0 p1).bind λy5=>bif (y5.2 != 0) then (some ((zA.mk 0 0),y5.2)) else (bif (bif (!(Aq p2 (-131072) 131072)) then true else (!(Ag p3 (-64) 64))) then (some ((zA.mk 0 0),3)) else ((Md F p2.Lo p0 p3 y5.1).bind λy8=>(Me F p2.Hi p0 p3 y5.1).bind λa0=>some ((zA.mk y8 a0),0)))
def Eo {σ:Type} (F:Nat) (body:σ->zM->Option (σ×Bool)) (c0_:zH) (c1_:Int) (c2_:zD) (c3_:Int) (k1:Int->σ->Option (σ×Bool)) (a0:Int) (a3:σ):Option (σ×Bool):=bif (decide (a0<=64)) then (bif (c1_==0) then ((Qg F c0_ c1_ (zA.mk c2_.Steps.1.Lo c2_.Steps.1.Hi) a0).bind λa1=>bif ((Ac (zA.mk a1.1.Lo a1.1.Hi) (zA.mk (IntKind.i64.wrap (0-c3_)) c3_)).2) then ((body a3 (zM.mk a0 (zA.mk (((Ac (zA.mk a1.1.Lo a1.1.Hi) (zA.mk (IntKind.i64.wrap (0-c3_)) c3_)).1).Lo) (((Ac (zA.mk a1.1.Lo a1.1.Hi) (zA.mk (IntKind.i64.wrap (0-c3_)) c3_)).1).Hi)))).bind λa4=>bif a4.2 then ((ck (a0+1)).bind λa6=>k1 a6 a4.1) else (some (a4.1,false))) else ((ck (a0+1)).bind λa7=>k1 a7 a3)) else (bif (c1_==1) then ((Qg F c0_ c1_ (zA.mk c2_.Steps.2.Lo c2_.Steps.2.Hi) a0).bind λa2=>bif ((Ac (zA.mk a2.1.Lo a2.1.Hi) (zA.mk (IntKind.i64.wrap (0-c3_)) c3_)).2) then ((body a3 (zM.mk a0 (zA.mk (((Ac (zA.mk a2.1.Lo a2.1.Hi) (zA.mk (IntKind.i64.wrap (0-c3_)) c3_)).1).Lo) (((Ac (zA.mk a2.1.Lo a2.1.Hi) (zA.mk (IntKind.i64.wrap (0-c3_)) c3_)).1).Hi)))).bind λa5=>bif a5.2 then ((ck (a0+1)).bind λa8=>k1 a8 a5.1) else (some (a5.1,false))) else ((ck (a0+1)).bind λa9=>k1 a9 a3)) else (none))) else (some (a3,true))
def Fc {σ:Type} (F:Nat) (body:σ->zM->Option (σ×Bool)) (c0_:zH) (c1_:Int) (c2_:zD) (c3_:Int):Nat->Int->σ->Option (σ×Bool)
  | 0,_,_=>none
  | n+1,a1,a0=>Eo F body c0_ c1_ c2_ c3_ (Fc F body c0_ c1_ c2_ c3_ n) a1 a0
def Qq {σ:Type} (F:Nat) (c0_:zH) (c1_:Int) (c2_:zD) (c3_:Int) (body:σ->zM->Option (σ×Bool)) (s_:σ):Option (σ×Bool):=Fc F body c0_ c1_ c2_ c3_ F (-64) s_
def Yk (p0:zH) (p1:zD) (p2 p3:Int):Unit:=()
def Gw (s_r:(List zM)×Nat) (x_:zM):Option (((List zM)×Nat)×Bool):=(apd 24 s_r.1 ([x_])).bind λa0=>some ((a0,0),true)
def Uw (tg_:Nat):Code:=.ret
def T5 (F:Nat) (p0:zH) (p1:zD) (p2 p3:Int):Option ((List zM)×Bool):=(Qq F p0 p2 (zD.mk p1.Kind p1.Power ((zA.mk p1.Steps.1.Lo p1.Steps.1.Hi),(zA.mk p1.Steps.2.Lo p1.Steps.2.Hi)) p1.Spread p1.Ratio p1.Match p1.Turn) p3 (Gw) (([]:List zM),0)).bind λa0=>bif a0.2 then ((gd (((decide ((a0.1.1.length:Int)>0))==true&&true)) (Av a0.1.1 0) default).bind λa1=>(gd (((a1.whole==(-64))==false&&((decide ((a0.1.1.length:Int)>0))==true&&true))) (ck ((a0.1.1.length:Int)-1)) 0).bind λa3=>(gd (((a1.whole==(-64))==false&&((decide ((a0.1.1.length:Int)>0))==true&&true))) (Av a0.1.1 a3) default).bind λa2=>bif (bif (decide ((a0.1.1.length:Int)>0)) then (bif (a1.whole==(-64)) then true else (a2.whole==64)) else false) then (some (([]:(List zM)),false)) else (some (a0.1.1,true))) else (none)
def Pz (a1:(List zM)×Bool) (a0:List zF):Option ((List zF)×Bool):=some (a0,a1.2)
def Mm (a1:Int) (k3:List zF->Int->Option ((List zF)×Bool)) (a0:List zF):Option ((List zF)×Bool):=(ck (a1+1)).bind λa2=>k3 a0 a2
def Mn (a1:Int) (k5:List zF->Int->Option ((List zF)×Bool)) (a0:List zF):Option ((List zF)×Bool):=(ck (a1+1)).bind λa2=>k5 a0 a2
def J1 (a4:(List zM)×Bool) (a6:Int) (k3:List zF->Int->Option ((List zF)×Bool)) (a0:zM) (k5:List zF->Int->Option ((List zF)×Bool)) (a3:List zF) (a2:Int):Option ((List zF)×Bool):=bif (decide (a2<(a4.1.length:Int))) then ((Av a4.1 a2).bind λa1=>bif ((Ac a0.speed a1.speed).2) then ((apd 32 a3 ([(zF.mk (a0.whole,a1.whole) (zA.mk (((Ac a0.speed a1.speed).1).Lo) (((Ac a0.speed a1.speed).1).Hi)))])).bind λa5=>Mn a2 k5 a5) else (Mn a2 k5 a3)) else (Mm a6 k3 a3)
def Ex (a2:(List zM)×Bool) (a1:Int) (k3:List zF->Int->Option ((List zF)×Bool)) (a0:zM):Nat->List zF->Int->Option ((List zF)×Bool)
  | 0,_,_=>none
  | n+1,a3,a4=>J1 a2 a1 k3 a0 (Ex a2 a1 k3 a0 n) a3 a4
def J0 (F:Nat) (y4 a2:(List zM)×Bool) (k3:List zF->Int->Option ((List zF)×Bool)) (a1:List zF) (a0:Int):Option ((List zF)×Bool):=bif (decide (a0<(y4.1.length:Int))) then ((Av y4.1 a0).bind λa3=>Ex a2 a0 k3 a3 F a1 0) else (Pz a2 a1)
def Ew (F:Nat) (y4 a0:(List zM)×Bool):Nat->List zF->Int->Option ((List zF)×Bool)
  | 0,_,_=>none
  | n+1,a1,a2=>J0 F y4 a0 (Ew F y4 a0 n) a1 a2
def Py (F:Nat) (p0:zH) (p1:zD) (p2:Int) (y4:(List zM)×Bool):Option ((List zF)×Bool):=(T5 F p0 (zD.mk p1.Kind p1.Power ((zA.mk p1.Steps.1.Lo p1.Steps.1.Hi),(zA.mk p1.Steps.2.Lo p1.Steps.2.Hi)) p1.Spread p1.Ratio p1.Match p1.Turn) 1 p2).bind λa0=>Ew F y4 a0 F ([]) 0
def Q0 (a0:List zF):Option ((List zF)×Bool):=some (a0,true)
def J2 (y4:(List zM)×Bool) (k8:List zF->Int->Option ((List zF)×Bool)) (a1:List zF) (a0:Int):Option ((List zF)×Bool):=bif (decide (a0<(y4.1.length:Int))) then ((Av y4.1 a0).bind λa2=>(apd 32 a1 ([(zF.mk (a2.whole,0) a2.speed)])).bind λa3=>(ck (a0+1)).bind λa4=>k8 a3 a4) else (Q0 a1)
def Gd (y4:(List zM)×Bool):Nat->List zF->Int->Option ((List zF)×Bool)
  | 0,_,_=>none
  | n+1,a0,a1=>J2 y4 (Gd y4 n) a0 a1
def Nz (F:Nat) (p0:zH) (p1:zD) (p2:Int):Option ((List zF)×Bool):=(T5 F p0 (zD.mk p1.Kind p1.Power ((zA.mk p1.Steps.1.Lo p1.Steps.1.Hi),(zA.mk p1.Steps.2.Lo p1.Steps.2.Hi)) p1.Spread p1.Ratio p1.Match p1.Turn) 0 p2).bind λy4=>bif (!y4.2) then (some (([]:(List zF)),false)) else (bif (p0.Kind==1) then (Gd y4 F ([]) 0) else (Py F p0 p1 p2 y4))
def Cs (F:Nat) (p0:List zA):Option (List zA):=(apd 16 ([]:List zA) p0).bind λl5=>some l5
def N3 (a0:List zA):Option (List zA):=some a0
def Es (a1:Int) (k2:Int->List zA->Option (List zA)) (a0:List zA):Option (List zA):=(ck (a1+1)).bind λa2=>k2 a2 a0
def Co (y9:List zA) (k2:Int->List zA->Option (List zA)) (a2:Int) (a0:List zA):Option (List zA):=bif (decide (a2<(y9.length:Int))) then ((Av y9 a2).bind λa1=>(gd (((decide ((a0.length:Int)>0))==true&&true)) (ck ((a0.length:Int)-1)) 0).bind λa9=>(gd (((decide ((a0.length:Int)>0))==true&&true)) (Av a0 a9) default).bind λa7=>bif (bif (decide ((a0.length:Int)>0)) then (decide (a1.Lo<=a7.Hi)) else false) then ((ck ((a0.length:Int)-1)).bind λa4=>(ck ((a0.length:Int)-1)).bind λaA=>(Av a0 aA).bind λa3=>(Av a0 a4).bind λa8=>(Ka a0 a4 (zA.mk a8.Lo (if a1.Hi>a3.Hi then a1.Hi else a3.Hi))).bind λa5=>Es a2 k2 a5) else ((apd 16 a0 ([a1])).bind λa6=>Es a2 k2 a6)) else (N3 a0)
def Ca (y9:List zA):Nat->Int->List zA->Option (List zA)
  | 0,_,_=>none
  | n+1,a1,a0=>Co y9 (Ca y9 n) a1 a0
def Du (F:Nat) (p0:List zA):Option (List zA):=(Cs F p0).bind λy5=>(Kf F y5).bind λy9=>Ca y9 F 0 ([])
def Rq (a0:List Int):Option (List Int):=some a0
def Pi (a1:Int) (k2:List Int->Int->Option (List Int)) (a0:List Int):Option (List Int):=(ck (a1+1)).bind λa2=>k2 a0 a2
def Kv (p0:List (List zA)) (k2:List Int->Int->Option (List Int)) (a1:List Int) (a0:Int):Option (List Int):=bif (decide (a0<(p0.length:Int))) then ((Av p0 a0).bind λa3=>bif (decide ((a3.length:Int)>0)) then ((apd 8 a1 ([a0])).bind λa2=>Pi a0 k2 a2) else (Pi a0 k2 a1)) else (Rq a1)
def Kw (p0:List (List zA)):Nat->List Int->Int->Option (List Int)
  | 0,_,_=>none
  | n+1,a0,a1=>Kv p0 (Kw p0 n) a0 a1
def Rg (F:Nat) (p0:List (List zA)):Option (List Int):=Kw p0 F ([]) 0
def Fi (F:Nat) (p0:zS) (p1 p2:zE) (p3:Int):Option zS:=(apd 24 ((lkM p0.bonds p1).getD []) ([(zL.mk p2 p3)])).bind λa0=>(apd 24 ((lkM (upM p0.bonds p1 a0) p2).getD []) ([(zL.mk p1 p3)])).bind λa1=>some (zS.mk p0.sets (upM (upM p0.bonds p1 a0) p2 a1))
def Cj (F:Nat) (p0:List (List zA)):Option (List (List zA)):=(apd 24 ([]:List (List zA)) p0).bind λl7=>some l7
def U3 (a0:List (List (List zA))) (a1:List (zE×(List zL))):Option zS:=some (zS.mk a0 a1)
def Rr (a2:Int) (k2:List (List (List zA))->List (zE×(List zL))->Int->Option zS) (a0:List (List (List zA))) (a1:List (zE×(List zL))):Option zS:=(ck (a2+1)).bind λa3=>k2 a0 a1 a3
def Jm (F:Nat) (a4:Int) (k2:List (List (List zA))->List (zE×(List zL))->Int->Option zS) (a3:List (List zA)) (a0:List (List (List zA))) (a1:List (zE×(List zL))):Option zS:=(Cj F a3).bind λa5=>(apd 24 a0 ([a5])).bind λa2=>Rr a4 k2 a2 a1
def L4 (a2:Int) (k5:List (List (List zA))->List (zE×(List zL))->Int->Option zS) (a0:List (List (List zA))) (a1:List (zE×(List zL))):Option zS:=(ck (a2+1)).bind λa3=>k5 a0 a1 a3
def Kz (F:Nat) (p0:List (List (List zA))) (p1 p2 a4 a5:Int) (k5:List (List (List zA))->List (zE×(List zL))->Int->Option zS) (a1:Int) (a2:List (List (List zA))) (a3:List (zE×(List zL))) (k8:Int->Option zS) (a0:Int):Option zS:=(ck ((p0.length:Int)-1)).bind λa6=>bif (decide (a0<=(if a6<p2 then a6 else p2))) then ((ck (a4+a0)).bind λaB=>(Jr aB (p0.length:Int)).bind λa7=>(Av p0 a7).bind λa9=>(Av a9 a1).bind λaA=>bif (decide ((aA.length:Int)>0)) then ((ck (p1*a0)).bind λaC=>(Fi F (zS.mk a2 a3) (zE.mk a4 a1) (zE.mk a7 a1) aC).bind λa8=>L4 a5 k5 a8.sets a8.bonds) else ((ck (a0+1)).bind λaD=>k8 aD)) else (L4 a5 k5 a2 a3)
def Jn (F:Nat) (p0:List (List (List zA))) (p1 p2 a3 a4:Int) (k5:List (List (List zA))->List (zE×(List zL))->Int->Option zS) (a2:Int) (a0:List (List (List zA))) (a1:List (zE×(List zL))):Nat->Int->Option zS
  | 0,_=>none
  | n+1,a5=>Kz F p0 p1 p2 a3 a4 k5 a2 a0 a1 (Jn F p0 p1 p2 a3 a4 k5 a2 a0 a1 n) a5
def Ms (F:Nat) (p0:List (List (List zA))) (p1 p2 a3 a4:Int) (k5:List (List (List zA))->List (zE×(List zL))->Int->Option zS) (a2:Int) (a0:List (List (List zA))) (a1:List (zE×(List zL))):Option zS:=Jn F p0 p1 p2 a3 a4 k5 a2 a0 a1 F 1
def Ky (F:Nat) (p0:List (List (List zA))) (p1 p2 a2:Int) (k2:List (List (List zA))->List (zE×(List zL))->Int->Option zS) (a7:List (List zA)) (a3:List Int) (k5:List (List (List zA))->List (zE×(List zL))->Int->Option zS) (a4:List (List (List zA))) (a5:List (zE×(List zL))) (a0:Int):Option zS:=bif (decide (a0<(a3.length:Int))) then ((Av a3 a0).bind λa1=>(gd (((decide (a0>0))==true&&true)) (ck (a0-1)) 0).bind λaB=>(gd (((decide (a0>0))==true&&true)) (Av a3 aB) default).bind λa8=>(gd (((decide (a0>0))==true&&true)) (ck (a1-a8)) 0).bind λaC=>bif (bif (decide (a0>0)) then (decide (aC<=p2)) else false) then ((ck (a0-1)).bind λaD=>(Av a3 aD).bind λa9=>(ck (a0-1)).bind λaE=>(Av a3 aE).bind λaA=>(ck (a1-aA)).bind λaF=>(ck (p1*aF)).bind λaG=>(Fi F (zS.mk a4 a5) (zE.mk a2 a9) (zE.mk a2 a1) aG).bind λa6=>Ms F p0 p1 p2 a2 a0 k5 a1 a6.sets a6.bonds) else (Ms F p0 p1 p2 a2 a0 k5 a1 a4 a5)) else (Jm F a2 k2 a7 a4 a5)
def Fb (F:Nat) (p0:List (List (List zA))) (p1 p2 a1:Int) (k2:List (List (List zA))->List (zE×(List zL))->Int->Option zS) (a0:List (List zA)) (a2:List Int):Nat->List (List (List zA))->List (zE×(List zL))->Int->Option zS
  | 0,_,_,_=>none
  | n+1,a3,a4,a5=>Ky F p0 p1 p2 a1 k2 a0 a2 (Fb F p0 p1 p2 a1 k2 a0 a2 n) a3 a4 a5
def Kx (F:Nat) (p0:List (List (List zA))) (p1 p2:Int) (k2:List (List (List zA))->List (zE×(List zL))->Int->Option zS) (a1:List (List (List zA))) (a2:List (zE×(List zL))) (a0:Int):Option zS:=bif (decide (a0<(p0.length:Int))) then ((Av p0 a0).bind λa3=>(Rg F a3).bind λa4=>Fb F p0 p1 p2 a0 k2 a3 a4 F a1 a2 0) else (U3 a1 a2)
def Gx (F:Nat) (p0:List (List (List zA))) (p1 p2:Int):Nat->List (List (List zA))->List (zE×(List zL))->Int->Option zS
  | 0,_,_,_=>none
  | n+1,a0,a1,a2=>Kx F p0 p1 p2 (Gx F p0 p1 p2 n) a0 a1 a2
def Ux (F:Nat) (p0:List (List (List zA))) (p1 p2:Int):Option zS:=Gx F p0 p1 p2 F ([]) ([]:List (zE×(List zL))) 0
def Fa (F:Nat) (p0:zE) (c0_:List (zE×Bool)) (c1_:List zE):Option ((List (zE×Bool))×(List zE)):=bif (!((lkM c0_ p0).getD false)) then ((apd 16 c1_ ([p0])).bind λl6=>some ((upM c0_ p0 true),l6)) else (some (c0_,c1_))
def G8 (F:Nat) (a0:List zA):Option (List zA):=(Du F a0).bind λa1=>some a1
def G9 (p0 p1:List zA) (a0 a1:Int) (k2:List zA->Int->Int->Option (List zA)) (a2:List zA):Option (List zA):=(Av p0 a0).bind λa3=>(Av p1 a1).bind λa4=>bif (decide (a3.Hi<a4.Hi)) then ((ck (a0+1)).bind λa5=>k2 a2 a5 a1) else ((ck (a1+1)).bind λa6=>k2 a2 a0 a6)
def Ed (F:Nat) (p0 p1:List zA) (k2:List zA->Int->Int->Option (List zA)) (a2:List zA) (a0 a1:Int):Option (List zA):=bif (bif (decide (a0<(p0.length:Int))) then (decide (a1<(p1.length:Int))) else false) then ((Av p0 a0).bind λa3=>(Av p1 a1).bind λa4=>bif ((Ac a3 a4).2) then ((apd 16 a2 ([(zA.mk (((Ac a3 a4).1).Lo) (((Ac a3 a4).1).Hi))])).bind λa5=>G9 p0 p1 a0 a1 k2 a5) else (G9 p0 p1 a0 a1 k2 a2)) else (G8 F a2)
def Dl (F:Nat) (p0 p1:List zA):Nat->List zA->Int->Int->Option (List zA)
  | 0,_,_,_=>none
  | n+1,a0,a1,a2=>Ed F p0 p1 (Dl F p0 p1 n) a0 a1 a2
def Jp (F:Nat) (p0 p1:List zA):Option (List zA):=Dl F p0 p1 F ([]) 0 0
def J6 (F:Nat) (a0:List zA):Option (List zA):=(Du F a0).bind λa1=>some a1
def Ee (F:Nat) (p0:List zA) (p1:Int) (k2:Int->List zA->Option (List zA)) (a0:Int) (a1:List zA):Option (List zA):=bif (decide (a0<(p0.length:Int))) then ((Av p0 a0).bind λa2=>(ck (a2.Lo-p1)).bind λa4=>(ck (a2.Hi+p1)).bind λa5=>(apd 16 a1 ([(zA.mk a4 a5)])).bind λa3=>(ck (a0+1)).bind λa6=>k2 a6 a3) else (J6 F a1)
def Ef (F:Nat) (p0:List zA) (p1:Int):Nat->Int->List zA->Option (List zA)
  | 0,_,_=>none
  | n+1,a1,a0=>Ee F p0 p1 (Ef F p0 p1 n) a1 a0
def Ls (F:Nat) (p0:List zA) (p1:Int):Option (List zA):=Ef F p0 p1 F 0 ([])
def Gk (F:Nat) (p0 p1:List zA) (p2:Int):Option (List zA):=(Ls F p1 p2).bind λy8=>(Jp F p0 y8).bind λa0=>some a0
def Em:Option Bool:=some true
def Bp (p0 p1:List zA) (k2:Int->Option Bool) (a0:Int):Option Bool:=bif (decide (a0<(p0.length:Int))) then ((Av p0 a0).bind λa1=>(Av p1 a0).bind λa2=>bif (!(((a1.Lo:Int)==a2.Lo)&&(((a1.Hi:Int)==a2.Hi)&&true))) then (some false) else ((ck (a0+1)).bind λa3=>k2 a3)) else (Em)
def Bq (p0 p1:List zA):Nat->Int->Option Bool
  | 0,_=>none
  | n+1,a0=>Bp p0 p1 (Bq p0 p1 n) a0
def Ce (F:Nat) (p0 p1:List zA):Option Bool:=bif ((p0.length:Int) != (p1.length:Int)) then (some false) else (Bq p0 p1 F 0)
def T8 (a1:List zE) (a0:List (List (List zA))) (a2:List (zE×Bool)):Option (List (List (List zA))):=some a0
def Hb (a3:Int) (k4:List zE->List (List (List zA))->List (zE×Bool)->Int->Option (List (List (List zA)))) (a0:List zE) (a1:List (List (List zA))) (a2:List (zE×Bool)):Option (List (List (List zA))):=(ck (a3+1)).bind λa4=>k4 a0 a1 a2 a4
def Ha (F:Nat) (y5:zS) (k3:List zE->List (List (List zA))->List (zE×Bool)->Option (List (List (List zA)))) (a2:zE) (k4:List zE->List (List (List zA))->List (zE×Bool)->Int->Option (List (List (List zA)))) (a4:List zE) (a1:List (List (List zA))) (a5:List (zE×Bool)) (a3:Int):Option (List (List (List zA))):=bif (decide (a3<((((lkM y5.bonds a2).getD []).length:Nat):Int))) then ((Av ((lkM y5.bonds a2).getD []) a3).bind λa0=>(Av a1 a0.to.ray).bind λaC=>(Av aC a0.to.gate).bind λa6=>(Av a1 a2.ray).bind λaD=>(Av aD a2.gate).bind λaE=>(Gk F a6 aE a0.most).bind λa8=>(Ce F a6 a8).bind λaF=>bif (!aF) then ((Av a1 a0.to.ray).bind λa7=>(Av a7 a0.to.gate).bind λaG=>(Ka a7 a0.to.gate a8).bind λaA=>(Ka a1 a0.to.ray aA).bind λaB=>(Fa F a0.to a5 a4).bind λa9=>Hb a3 k4 a9.2 aB a9.1) else (Hb a3 k4 a4 a1 a5)) else (k3 a4 a1 a5)
def D0 (F:Nat) (y5:zS) (k3:List zE->List (List (List zA))->List (zE×Bool)->Option (List (List (List zA)))) (a0:zE):Nat->List zE->List (List (List zA))->List (zE×Bool)->Int->Option (List (List (List zA)))
  | 0,_,_,_,_=>none
  | n+1,a1,a2,a3,a4=>Ha F y5 k3 a0 (D0 F y5 k3 a0 n) a1 a2 a3 a4
def H9 (F:Nat) (y5:zS) (k3:List zE->List (List (List zA))->List (zE×Bool)->Option (List (List (List zA)))) (a0:List zE) (a1:List (List (List zA))) (a2:List (zE×Bool)):Option (List (List (List zA))):=bif (decide ((a0.length:Int)>0)) then ((Av a0 0).bind λa3=>(Sx a0 1 (a0.length:Int)).bind λa4=>D0 F y5 k3 a3 F a4 a1 (Ud a2 a3) 0) else (T8 a0 a1 a2)
def Fe (F:Nat) (y5:zS):Nat->List zE->List (List (List zA))->List (zE×Bool)->Option (List (List (List zA)))
  | 0,_,_,_=>none
  | n+1,a0,a1,a2=>H9 F y5 (Fe F y5 n) a0 a1 a2
def Nk (F:Nat) (y5:zS) (a0:List zE) (a1:List (zE×Bool)):Option (List (List (List zA))):=Fe F y5 F a0 y5.sets a1
def Nl (a2:Int) (k6:List zE->List (zE×Bool)->Int->Option (List (List (List zA)))) (a0:List zE) (a1:List (zE×Bool)):Option (List (List (List zA))):=(ck (a2+1)).bind λa3=>k6 a0 a1 a3
def K2 (F:Nat) (a3:Int) (k6:List zE->List (zE×Bool)->Int->Option (List (List (List zA)))) (a4:List Int) (k8:List zE->List (zE×Bool)->Int->Option (List (List (List zA)))) (a1:List zE) (a2:List (zE×Bool)) (a0:Int):Option (List (List (List zA))):=bif (decide (a0<(a4.length:Int))) then ((Av a4 a0).bind λa6=>(Fa F (zE.mk a3 a6) a2 a1).bind λa5=>(ck (a0+1)).bind λa7=>k8 a5.2 a5.1 a7) else (Nl a3 k6 a1 a2)
def Fg (F:Nat) (a0:Int) (k6:List zE->List (zE×Bool)->Int->Option (List (List (List zA)))) (a1:List Int):Nat->List zE->List (zE×Bool)->Int->Option (List (List (List zA)))
  | 0,_,_,_=>none
  | n+1,a2,a3,a4=>K2 F a0 k6 a1 (Fg F a0 k6 a1 n) a2 a3 a4
def K1 (F:Nat) (p0:List (List (List zA))) (y5:zS) (k6:List zE->List (zE×Bool)->Int->Option (List (List (List zA)))) (a1:List zE) (a2:List (zE×Bool)) (a0:Int):Option (List (List (List zA))):=bif (decide (a0<(p0.length:Int))) then ((Av p0 a0).bind λa3=>(Rg F a3).bind λa4=>Fg F a0 k6 a4 F a1 a2 0) else (Nk F y5 a1 a2)
def Ff (F:Nat) (p0:List (List (List zA))) (y5:zS):Nat->List zE->List (zE×Bool)->Int->Option (List (List (List zA)))
  | 0,_,_,_=>none
  | n+1,a0,a1,a2=>K1 F p0 y5 (Ff F p0 y5 n) a0 a1 a2
def S8 (F:Nat) (p0:List (List (List zA))) (p1 p2:Int):Option (List (List (List zA))):=(Ux F p0 p1 p2).bind λy5=>Ff F p0 y5 F ([]) ([]:List (zE×Bool)) 0
def Qp (a0:List zF):Option zK:=(Av ([4,2,3]) (if (a0.length:Int)<2 then (a0.length:Int) else 2)).bind λa1=>some (zK.mk a1 a0)
def P0 (a1:Int) (k2:Int->List zF->Option zK) (a0:List zF):Option zK:=(ck (a1+1)).bind λa2=>k2 a2 a0
def M9 (F:Nat) (p0:List zF) (p1:List zA) (k2:Int->List zF->Option zK) (a0:Int) (a2:List zF):Option zK:=bif (decide (a0<(p0.length:Int))) then ((Av p0 a0).bind λa3=>(Jp F p1 ([a3.Speed])).bind λa1=>bif (decide ((a1.length:Int)>0)) then ((Av a1 0).bind λa5=>(ck ((a1.length:Int)-1)).bind λa7=>(Av a1 a7).bind λa6=>(apd 32 a2 ([(zF.mk (a3.Whole.1,a3.Whole.2) (zA.mk a5.Lo a6.Hi))])).bind λa4=>P0 a0 k2 a4) else (P0 a0 k2 a2)) else (Qp a2)
def Ma (F:Nat) (p0:List zF) (p1:List zA):Nat->Int->List zF->Option zK
  | 0,_,_=>none
  | n+1,a1,a0=>M9 F p0 p1 (Ma F p0 p1 n) a1 a0
def X1 (F:Nat) (p0:List zF) (p1:List zA):Option zK:=Ma F p0 p1 F 0 ([])
def Qm (a0:List (List zK)):Option ((List (List zK))×Int):=some (a0,0)
def Qn (a1:Int) (k3:Int->List (List zK)->Option ((List (List zK))×Int)) (a0:List (List zK)):Option ((List (List zK))×Int):=(ck (a1+1)).bind λa2=>k3 a2 a0
def Lr (a1 a6:Int) (a0:List (List zK)) (k5:Int->List (List zK)->Option ((List (List zK))×Int)) (a7:Int) (a2:List zF):Option ((List (List zK))×Int):=(Av a0 a1).bind λa5=>(apd 32 a5 ([(zK.mk a7 a2)])).bind λa3=>(Av a0 a1).bind λa9=>(Ka a0 a1 a3).bind λa4=>(ck (a6+1)).bind λa8=>k5 a8 a4
def Jy (F:Nat) (a5:List (List (List zF))) (aB:List (List (List zA))) (a1:Int) (k3:Int->List (List zK)->Option ((List (List zK))×Int)) (a3:List zD) (k5:Int->List (List zK)->Option ((List (List zK))×Int)) (a0:Int) (a2:List (List zK)):Option ((List (List zK))×Int):=bif (decide (a0<(a3.length:Int))) then ((Av a3 a0).bind λa6=>bif (a6.Kind==3) then ((Av a5 a1).bind λa7=>(Av a7 a0).bind λa8=>(Av aB a1).bind λa9=>(Av a9 a0).bind λaA=>(X1 F a8 aA).bind λa4=>Lr a1 a0 a2 k5 a4.State a4.Guesses) else (Lr a1 a0 a2 k5 1 ([]))) else (Qn a1 k3 a2)
def H6 (F:Nat) (a0:List (List (List zF))) (a3:List (List (List zA))) (a2:Int) (k3:Int->List (List zK)->Option ((List (List zK))×Int)) (a1:List zD):Nat->Int->List (List zK)->Option ((List (List zK))×Int)
  | 0,_,_=>none
  | n+1,a5,a4=>Jy F a0 a3 a2 k3 a1 (H6 F a0 a3 a2 k3 a1 n) a5 a4
def Jx (F:Nat) (p1:zJ) (a2:List (List (List zF))) (a4:List (List (List zA))) (k3:Int->List (List zK)->Option ((List (List zK))×Int)) (a0:Int) (a1:List (List zK)):Option ((List (List zK))×Int):=bif (decide (a0<(p1.Rays.length:Int))) then ((Av p1.Rays a0).bind λa3=>H6 F a2 a4 a0 k3 a3 F 0 a1) else (Qm a1)
def H5 (F:Nat) (p1:zJ) (a0:List (List (List zF))) (a1:List (List (List zA))):Nat->Int->List (List zK)->Option ((List (List zK))×Int)
  | 0,_,_=>none
  | n+1,a3,a2=>Jx F p1 a0 a1 (H5 F p1 a0 a1 n) a3 a2
def Ni (F:Nat) (p1:zJ) (p3 p4:Int) (a0:List (List (List zA))) (a1:List (List (List zF))):Option ((List (List zK))×Int):=(S8 F a0 p3 p4).bind λa3=>(mkI 24 (p1.Rays.length:Int) ([]:(List zK))).bind λa2=>H5 F p1 a1 a3 F 0 a2
def Qo (a2:Int) (k7:List (List (List zA))->List (List (List zF))->Int->Option ((List (List zK))×Int)) (a0:List (List (List zA))) (a1:List (List (List zF))):Option ((List (List zK))×Int):=(ck (a2+1)).bind λa3=>k7 a0 a1 a3
def Kl (a2:Int) (k9:List (List (List zA))->List (List (List zF))->Int->Option ((List (List zK))×Int)) (a0:List (List (List zA))) (a1:List (List (List zF))):Option ((List (List zK))×Int):=(ck (a2+1)).bind λa3=>k9 a0 a1 a3
def Ml (F:Nat) (a3:Int) (a1:List (List (List zA))) (a0:Int) (k9:List (List (List zA))->List (List (List zF))->Int->Option ((List (List zK))×Int)) (a4:List (List (List zF))) (a5:List zA):Option ((List (List zK))×Int):=(Av a1 a3).bind λa2=>(Du F a5).bind λa8=>(Av a2 a0).bind λa9=>(Ka a2 a0 a8).bind λa6=>(Ka a1 a3 a6).bind λa7=>Kl a0 k9 a7 a4
def Hv (F:Nat) (a8:Int) (a4:List (List (List zA))) (a9:Int) (k9:List (List (List zA))->List (List (List zF))->Int->Option ((List (List zK))×Int)) (a2:(List zF)×Bool) (a5:List (List (List zF))) (a3:Int->List zA->Option ((List (List zK))×Int)) (a0:Int) (a1:List zA):Option ((List (List zK))×Int):=bif (decide (a0<(a2.1.length:Int))) then ((Av a2.1 a0).bind λa7=>(apd 16 a1 ([a7.Speed])).bind λa6=>(ck (a0+1)).bind λaA=>a3 aA a6) else (Ml F a8 a4 a9 k9 a5 a1)
def Hw (F:Nat) (a2:Int) (a0:List (List (List zA))) (a3:Int) (k9:List (List (List zA))->List (List (List zF))->Int->Option ((List (List zK))×Int)) (a4:(List zF)×Bool) (a1:List (List (List zF))):Nat->Int->List zA->Option ((List (List zK))×Int)
  | 0,_,_=>none
  | n+1,a6,a5=>Hv F a2 a0 a3 k9 a4 a1 (Hw F a2 a0 a3 k9 a4 a1 n) a6 a5
def K0 (F:Nat) (p0:zH) (p2 a3:Int) (k7:List (List (List zA))->List (List (List zF))->Int->Option ((List (List zK))×Int)) (a6:List zD) (k9:List (List (List zA))->List (List (List zF))->Int->Option ((List (List zK))×Int)) (a4:List (List (List zA))) (a2:List (List (List zF))) (a1:Int):Option ((List (List zK))×Int):=bif (decide (a1<(a6.length:Int))) then ((Av a6 a1).bind λa0=>bif (a0.Kind != 3) then (Kl a1 k9 a4 a2) else ((Nz F p0 (zD.mk a0.Kind a0.Power ((zA.mk a0.Steps.1.Lo a0.Steps.1.Hi),(zA.mk a0.Steps.2.Lo a0.Steps.2.Hi)) a0.Spread a0.Ratio a0.Match a0.Turn) p2).bind λa5=>bif (!a5.2) then (some (([]:(List (List zK))),9)) else ((Av a2 a3).bind λa7=>(Av a7 a1).bind λaA=>(Ka a7 a1 a5.1).bind λa8=>(Ka a2 a3 a8).bind λa9=>Hw F a3 a4 a1 k9 a5 a9 F 0 ([])))) else (Qo a3 k7 a4 a2)
def H8 (F:Nat) (p0:zH) (p2 a1:Int) (k7:List (List (List zA))->List (List (List zF))->Int->Option ((List (List zK))×Int)) (a0:List zD):Nat->List (List (List zA))->List (List (List zF))->Int->Option ((List (List zK))×Int)
  | 0,_,_,_=>none
  | n+1,a2,a3,a4=>K0 F p0 p2 a1 k7 a0 (H8 F p0 p2 a1 k7 a0 n) a2 a3 a4
def Jz (F:Nat) (p0:zH) (p1:zJ) (p2 p3 p4:Int) (k7:List (List (List zA))->List (List (List zF))->Int->Option ((List (List zK))×Int)) (a1:List (List (List zA))) (a2:List (List (List zF))) (a0:Int):Option ((List (List zK))×Int):=bif (decide (a0<(p1.Rays.length:Int))) then ((Av p1.Rays a0).bind λa3=>(mkI 24 (a3.length:Int) ([]:(List zA))).bind λa4=>(Av a1 a0).bind λa8=>(mkI 24 (a3.length:Int) ([]:(List zF))).bind λa5=>(Ka a1 a0 a4).bind λa6=>(Av a2 a0).bind λa9=>(Ka a2 a0 a5).bind λa7=>H8 F p0 p2 a0 k7 a3 F a6 a7 0) else (Ni F p1 p3 p4 a1 a2)
def H7 (F:Nat) (p0:zH) (p1:zJ) (p2 p3 p4:Int):Nat->List (List (List zA))->List (List (List zF))->Int->Option ((List (List zK))×Int)
  | 0,_,_,_=>none
  | n+1,a0,a1,a2=>Jz F p0 p1 p2 p3 p4 (H7 F p0 p1 p2 p3 p4 n) a0 a1 a2
def Nh (F:Nat) (p0:zH) (p1:zJ) (p2 p3 p4:Int):Option ((List (List zK))×Int):=(F6 F p0).bind λy7=>bif (y7 != 0) then (some (([]:(List (List zK))),y7)) else ((D3 F p1).bind λy8=>bif (y8 != 0) then (some (([]:(List (List zK))),y8)) else (bif (!(Rf p2)) then (some (([]:(List (List zK))),3)) else (bif ((Je p3 p4) != 0) then (some (([]:(List (List zK))),(Je p3 p4))) else ((mkI 24 (p1.Rays.length:Int) ([]:(List (List zA)))).bind λa0=>(mkI 24 (p1.Rays.length:Int) ([]:(List (List zF)))).bind λa1=>H7 F p0 p1 p2 p3 p4 F a0 a1 0))))
def Rn:Option Bool:=none
def M6 (p0:zF) (p1:List zF) (k2:Int->Option Bool) (a1:Int):Option Bool:=bif (decide (a1<(p1.length:Int))) then ((Av p1 a1).bind λa0=>(gd (((((a0.Whole.1:Int)==p0.Whole.1)&&(((a0.Whole.2:Int)==p0.Whole.2)&&true))==true&&true)) (Av p1 a1) default).bind λa2=>(gd (((bif (((a0.Whole.1:Int)==p0.Whole.1)&&(((a0.Whole.2:Int)==p0.Whole.2)&&true)) then (decide (a2.Speed.Lo<=p0.Speed.Lo)) else false)==true&&true)) (Av p1 a1) default).bind λa3=>bif (bif (bif (((a0.Whole.1:Int)==p0.Whole.1)&&(((a0.Whole.2:Int)==p0.Whole.2)&&true)) then (decide (a2.Speed.Lo<=p0.Speed.Lo)) else false) then (decide (a3.Speed.Hi>=p0.Speed.Hi)) else false) then (some true) else ((ck (a1+1)).bind λa4=>k2 a4)) else (Rn)
def Jv (p0:zF) (p1:List zF):Nat->Int->Option Bool
  | 0,_=>none
  | n+1,a0=>M6 p0 p1 (Jv p0 p1 n) a0
def Pw (F:Nat) (p0:zF) (p1:List zF):Option Bool:=Jv p0 p1 F 0
def Mr (F:Nat):Option Bool:=(Kq F (zU.mk (zW.mk 1 200 150 62 0 1 30000 ([]:(List Int)) 0 0 ([]:(List Int)) ([9,3])) 1 50 0)).bind λy3=>(T7 F y3).bind λy5=>(Hu F (zW.mk 1 200 150 62 0 1 30000 ([]:(List Int)) 0 0 ([]:(List Int)) ([9,3]))).bind λa2=>(Q9 F y5.1 (zJ.mk (zX.mk a2.1.Site.Name a2.1.Site.X a2.1.Site.Y a2.1.Site.Z a2.1.Site.Rose a2.1.Site.Gates a2.1.Site.Step a2.1.Site.Width) a2.1.Tilt a2.1.Time a2.1.Rays)).bind λa3=>(Av a3.1.Rays 0).bind λa4=>(Av a4 0).bind λa0=>(Av a2.1.Rays 0).bind λa5=>(Av a5 0).bind λa1=>(Av a3.1.Rays 0).bind λa6=>(Av a6 1).bind λa7=>(Av a2.1.Rays 0).bind λa8=>(Av a8 1).bind λa9=>some (bif (bif (bif (bif (bif (bif (y5.2.2==0) then (a3.2==0) else false) then a2.2 else false) then ((a3.1.Rays.length:Int)==4) else false) then (((a0.Kind:Int)==a1.Kind)&&((((a0.Power.Lo:Int)==a1.Power.Lo)&&(((a0.Power.Hi:Int)==a1.Power.Hi)&&true))&&(((((a0.Steps.1.Lo:Int)==a1.Steps.1.Lo)&&(((a0.Steps.1.Hi:Int)==a1.Steps.1.Hi)&&true))&&((((a0.Steps.2.Lo:Int)==a1.Steps.2.Lo)&&(((a0.Steps.2.Hi:Int)==a1.Steps.2.Hi)&&true))&&true))&&(((a0.Spread:Int)==a1.Spread)&&((((a0.Ratio.Lo:Int)==a1.Ratio.Lo)&&(((a0.Ratio.Hi:Int)==a1.Ratio.Hi)&&true))&&((((a0.Match.Lo:Int)==a1.Match.Lo)&&(((a0.Match.Hi:Int)==a1.Match.Hi)&&true))&&((((a0.Turn.Lo:Int)==a1.Turn.Lo)&&(((a0.Turn.Hi:Int)==a1.Turn.Hi)&&true))&&true))))))) else false) then (a7.Kind==1) else false) then (a9.Kind==3) else false)
def P6 (F:Nat):Option Bool:=(Mr F).bind λa0=>some a0
def P7 (a0:Int) (k2:Int->Option Bool):Option Bool:=(ck (a0+1)).bind λa1=>k2 a1
def Gv (a0:Int) (k4:Int->Option Bool):Option Bool:=(ck (a0+1)).bind λa1=>k4 a1
def P8 (a1:Int) (k4:Int->Option Bool) (a0:Bool):Option Bool:=bif (!a0) then (none) else (Gv a1 k4)
def Gt (F:Nat) (a5 aE:(List (List zK))×Int) (a3 a0:Int) (k4:Int->Option Bool) (k8:Bool->Int->Option Bool) (a1:Bool) (a4:Int):Option Bool:=(Av a5.1 a3).bind λa6=>(Av a6 a0).bind λa7=>bif (decide (a4<(a7.Guesses.length:Int))) then ((Av a5.1 a3).bind λa8=>(Av a8 a0).bind λa9=>(Av a9.Guesses a4).bind λa2=>(Av aE.1 a3).bind λaA=>(Av aA a0).bind λaB=>(gd ((a1==true&&true)) (Pw F (zF.mk (a2.Whole.1,a2.Whole.2) a2.Speed) aB.Guesses) default).bind λaD=>(ck (a4+1)).bind λaC=>k8 (bif a1 then aD else false) aC) else (P8 a0 k4 a1)
def Jt (F:Nat) (a2 a3:(List (List zK))×Int) (a0 a1:Int) (k4:Int->Option Bool):Nat->Bool->Int->Option Bool
  | 0,_,_=>none
  | n+1,a4,a5=>Gt F a2 a3 a0 a1 k4 (Jt F a2 a3 a0 a1 k4 n) a4 a5
def M5 (F:Nat) (a3 a4:(List (List zK))×Int) (a1 a2:Int) (k4:Int->Option Bool) (a0:Bool):Option Bool:=Jt F a3 a4 a1 a2 k4 F a0 0
def Gu (F:Nat) (p0:zU) (aE:zJ×Bool) (aF a3:(List (List zK))×Int) (a0 a1:Int) (k4:Int->Option Bool) (k9:Bool->Int->Option Bool) (a4:Bool) (a2:Int):Option Bool:=(Av a3.1 a0).bind λa7=>(Av a7 a1).bind λa8=>bif (decide (a2<(a8.Guesses.length:Int))) then ((Av a3.1 a0).bind λa9=>(Av a9 a1).bind λaA=>(Av aA.Guesses a2).bind λa5=>(ck (a0*aE.1.Site.Gates)).bind λaB=>(ck (aB+a1)).bind λaC=>(Ht F p0.Air aC).bind λa6=>(ck (a2+1)).bind λaD=>k9 (bif a4 then true else (bif (decide (a6>=a5.Speed.Lo)) then (decide (a6<=a5.Speed.Hi)) else false)) aD) else (M5 F aF a3 a0 a1 k4 a4)
def Ju (F:Nat) (p0:zU) (a2:zJ×Bool) (a3 a4:(List (List zK))×Int) (a0 a1:Int) (k4:Int->Option Bool):Nat->Bool->Int->Option Bool
  | 0,_,_=>none
  | n+1,a5,a6=>Gu F p0 a2 a3 a4 a0 a1 k4 (Ju F p0 a2 a3 a4 a0 a1 k4 n) a5 a6
def Gs (F:Nat) (p0:zU) (a4:zJ×Bool) (aJ:zJ×Int) (aK:(List (List zP))×Int) (a6 a5:(List (List zK))×Int) (a3:Int) (k2 k4:Int->Option Bool) (a2:Int):Option Bool:=bif (decide (a2<a4.1.Site.Gates)) then ((Av aK.1 a3).bind λa7=>(Av a7 a2).bind λa8=>bif (decide (a8.Rule>=0)) then ((Av a5.1 a3).bind λa9=>(Av a9 a2).bind λaA=>bif (aA.State != 1) then (none) else (Gv a2 k4)) else ((Av aJ.1.Rays a3).bind λaB=>(Av aB a2).bind λa0=>(Av a4.1.Rays a3).bind λaC=>(Av aC a2).bind λa1=>(Av a5.1 a3).bind λaD=>(Av aD a2).bind λaE=>(Av a6.1 a3).bind λaF=>(Av aF a2).bind λaG=>bif (bif (!(((a0.Kind:Int)==a1.Kind)&&((((a0.Power.Lo:Int)==a1.Power.Lo)&&(((a0.Power.Hi:Int)==a1.Power.Hi)&&true))&&(((((a0.Steps.1.Lo:Int)==a1.Steps.1.Lo)&&(((a0.Steps.1.Hi:Int)==a1.Steps.1.Hi)&&true))&&((((a0.Steps.2.Lo:Int)==a1.Steps.2.Lo)&&(((a0.Steps.2.Hi:Int)==a1.Steps.2.Hi)&&true))&&true))&&(((a0.Spread:Int)==a1.Spread)&&((((a0.Ratio.Lo:Int)==a1.Ratio.Lo)&&(((a0.Ratio.Hi:Int)==a1.Ratio.Hi)&&true))&&((((a0.Match.Lo:Int)==a1.Match.Lo)&&(((a0.Match.Hi:Int)==a1.Match.Hi)&&true))&&((((a0.Turn.Lo:Int)==a1.Turn.Lo)&&(((a0.Turn.Hi:Int)==a1.Turn.Hi)&&true))&&true)))))))) then true else (!((aE.State==1)==(aG.State==1)))) then (none) else ((Av a4.1.Rays a3).bind λaH=>(Av aH a2).bind λaI=>Ju F p0 a4 a6 a5 a3 a2 k4 F (aI.Kind != 3) 0))) else (P7 a3 k2)
def F8 (F:Nat) (p0:zU) (a1:zJ×Bool) (a2:zJ×Int) (a3:(List (List zP))×Int) (a4 a5:(List (List zK))×Int) (a0:Int) (k2:Int->Option Bool):Nat->Int->Option Bool
  | 0,_=>none
  | n+1,a6=>Gs F p0 a1 a2 a3 a4 a5 a0 k2 (F8 F p0 a1 a2 a3 a4 a5 a0 k2 n) a6
def Gr (F:Nat) (p0:zU) (a1:zJ×Bool) (a2:zJ×Int) (a3:(List (List zP))×Int) (a4 a5:(List (List zK))×Int) (k2:Int->Option Bool) (a0:Int):Option Bool:=bif (decide (a0<4)) then (F8 F p0 a1 a2 a3 a4 a5 a0 k2 F 0) else (P6 F)
def Js (F:Nat) (p0:zU) (a0:zJ×Bool) (a1:zJ×Int) (a2:(List (List zP))×Int) (a3 a4:(List (List zK))×Int):Nat->Int->Option Bool
  | 0,_=>none
  | n+1,a5=>Gr F p0 a0 a1 a2 a3 a4 (Js F p0 a0 a1 a2 a3 a4 n) a5
def Pu (F:Nat) (p0:zU):Option Bool:=(Kq F p0).bind λaF=>(T7 F aF).bind λa2=>(Hu F p0.Air).bind λa0=>bif (bif (a2.2.2 != 0) then true else (!a0.2)) then (none) else ((Q9 F a2.1 (zJ.mk (zX.mk a0.1.Site.Name a0.1.Site.X a0.1.Site.Y a0.1.Site.Z a0.1.Site.Rose a0.1.Site.Gates a0.1.Site.Step a0.1.Site.Width) a0.1.Tilt a0.1.Time a0.1.Rays)).bind λa1=>(Qa F a2.1 (zJ.mk (zX.mk a0.1.Site.Name a0.1.Site.X a0.1.Site.Y a0.1.Site.Z a0.1.Site.Rose a0.1.Site.Gates a0.1.Site.Step a0.1.Site.Width) a0.1.Tilt a0.1.Time a0.1.Rays)).bind λa3=>(ck p0.Air.Jump).bind λa8=>(Jr a8 9000).bind λa6=>(G6 F p0.Air).bind λa7=>(ck p0.Far).bind λa9=>(Jr a9 3).bind λaA=>(ck (1+aA)).bind λaB=>(Nh F a7 (zJ.mk (zX.mk a0.1.Site.Name a0.1.Site.X a0.1.Site.Y a0.1.Site.Z a0.1.Site.Rose a0.1.Site.Gates a0.1.Site.Step a0.1.Site.Width) a0.1.Tilt a0.1.Time a0.1.Rays) 60000 a6 aB).bind λa4=>(ck p0.Far).bind λaC=>(Jr aC 3).bind λaD=>(ck (1+aD)).bind λaE=>(Nh F a7 (zJ.mk (zX.mk a1.1.Site.Name a1.1.Site.X a1.1.Site.Y a1.1.Site.Z a1.1.Site.Rose a1.1.Site.Gates a1.1.Site.Step a1.1.Site.Width) a1.1.Tilt a1.1.Time a1.1.Rays) 60000 a6 aE).bind λa5=>bif (bif (bif (bif (bif (bif (bif (a1.2 != 0) then true else (a3.2 != 0)) then true else (a4.2 != 0)) then true else (a5.2 != 0)) then true else ((a5.1.length:Int) != 4)) then true else ((a4.1.length:Int) != 4)) then true else ((a3.1.length:Int) != 4)) then (none) else (Js F p0 a0 a1 a3 a4 a5 F 0))
abbrev CL:=@Calls Tryz.prog
abbrev CR:=@Up Tryz.prog
abbrev CP (f:FuncId) (l:Array Value) (w:World) (v:Value):Prop:=Calls Tryz.prog f l w (λe w2=>e=.returned v/\Ext w w2)
end Go.Proofs.YtfkeddejdahnhaaGreatDoor
