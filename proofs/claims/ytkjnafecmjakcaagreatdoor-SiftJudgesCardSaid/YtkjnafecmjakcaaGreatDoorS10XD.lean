import Derived.Test.YtkjnafecmjakcaaGreatDoorProg
import Derived.Test.YtkjnafecmjakcaaGreatDoorS10EB
namespace Go.Proofs.YtkjnafecmjakcaaGreatDoor
open Go Go.RowKit Go.Eng
set_option maxRecDepth 10000
set_option maxHeartbeats 4000000
set_option linter.unusedVariables false
set_option linter.unusedSimpArgs false
structure zG where
  Op:Int
  Value_:Int
  Rays:Int
  Gates:Int
  Args:(List zG)
  deriving Inhabited
structure zN where
  Name:ByteArray
  When:zG
  deriving Inhabited
structure zA where
  Op:Int
  Value_:Int
  Rays:Int
  Gates:Int
  Args:(List zA)
  deriving Inhabited
structure zJ where
  Name:ByteArray
  When:zA
  deriving Inhabited
structure zP where
  Name:ByteArray
  X:Int
  Y:Int
  Z:Int
  Rose:Int
  Gates:Int
  Step:Int
  Width:Int
  deriving Inhabited,DecidableEq
def zP.cells (x:zP):List Value:=[.string x.Name,.int .i64 x.X,.int .i64 x.Y,.int .i64 x.Z,.int .i64 x.Rose,.int .i64 x.Gates,.int .i64 x.Step,.int .i64 x.Width]
theorem zP.cells_len (x:zP):(zP.cells x).length=8:=rfl
structure zC where
  Lo:Int
  Hi:Int
  deriving Inhabited,DecidableEq
def zC.cells (x:zC):List Value:=[.int .i64 x.Lo,.int .i64 x.Hi]
theorem zC.cells_len (x:zC):(zC.cells x).length=2:=rfl
structure zD where
  Kind:Int
  Power:zC
  Steps:(zC×zC)
  Spread:Int
  Ratio:zC
  Match:zC
  Turn:zC
  deriving Inhabited,DecidableEq
def zD.cells (x:zD):List Value:=[.int .i64 x.Kind,.int .i64 x.Power.Lo,.int .i64 x.Power.Hi,.int .i64 x.Steps.1.Lo,.int .i64 x.Steps.1.Hi,.int .i64 x.Steps.2.Lo,.int .i64 x.Steps.2.Hi,.int .i64 x.Spread,.int .i64 x.Ratio.Lo,.int .i64 x.Ratio.Hi,.int .i64 x.Match.Lo,.int .i64 x.Match.Hi,.int .i64 x.Turn.Lo,.int .i64 x.Turn.Hi]
theorem zD.cells_len (x:zD):(zD.cells x).length=14:=rfl
structure zF where
  Site:zP
  Tilt:Int
  Time:Int
  Rays:(List (List zD))
  deriving Inhabited,DecidableEq
structure zE where
  span:zC
  has:Bool
  deriving Inhabited,DecidableEq
def zE.cells (x:zE):List Value:=[.int .i64 x.span.Lo,.int .i64 x.span.Hi,.bool x.has]
theorem zE.cells_len (x:zE):(zE.cells x).length=3:=rfl
structure zH where
  s:zF
  n:Int
  tests:(List (ByteArray×(List Int)))
  values:(List (ByteArray×(List zE)))
  deriving Inhabited,DecidableEq
structure zL where
  Rule:Int
  Doubts:(List Int)
  deriving Inhabited,DecidableEq
structure zB where
  s:ByteArray
  at_:Int
  token:ByteArray
  from_:Int
  deriving Inhabited,DecidableEq
def zB.cells (x:zB):List Value:=[.string x.s,.int .i64 x.at_,.string x.token,.int .i64 x.from_]
theorem zB.cells_len (x:zB):(zB.cells x).length=4:=rfl
structure zK where
  Span:zC
  Has:Bool
  deriving Inhabited,DecidableEq
def zK.cells (x:zK):List Value:=[.int .i64 x.Span.Lo,.int .i64 x.Span.Hi,.bool x.Has]
theorem zK.cells_len (x:zK):(zK.cells x).length=3:=rfl
structure zM where
  Rule:Int
  Doubts:(List Int)
  deriving Inhabited,DecidableEq
abbrev zP.ar (x:zP):Array Value:=#[.string x.Name,.int .i64 x.X,.int .i64 x.Y,.int .i64 x.Z,.int .i64 x.Rose,.int .i64 x.Gates,.int .i64 x.Step,.int .i64 x.Width]
abbrev zP.ag (x:zP):Value:=.agg #[.string x.Name,.int .i64 x.X,.int .i64 x.Y,.int .i64 x.Z,.int .i64 x.Rose,.int .i64 x.Gates,.int .i64 x.Step,.int .i64 x.Width]
abbrev zD.ar (x:zD):Array Value:=#[.int .i64 x.Kind,.int .i64 x.Power.Lo,.int .i64 x.Power.Hi,.int .i64 x.Steps.1.Lo,.int .i64 x.Steps.1.Hi,.int .i64 x.Steps.2.Lo,.int .i64 x.Steps.2.Hi,.int .i64 x.Spread,.int .i64 x.Ratio.Lo,.int .i64 x.Ratio.Hi,.int .i64 x.Match.Lo,.int .i64 x.Match.Hi,.int .i64 x.Turn.Lo,.int .i64 x.Turn.Hi]
abbrev zD.ag (x:zD):Value:=.agg #[.int .i64 x.Kind,.int .i64 x.Power.Lo,.int .i64 x.Power.Hi,.int .i64 x.Steps.1.Lo,.int .i64 x.Steps.1.Hi,.int .i64 x.Steps.2.Lo,.int .i64 x.Steps.2.Hi,.int .i64 x.Spread,.int .i64 x.Ratio.Lo,.int .i64 x.Ratio.Hi,.int .i64 x.Match.Lo,.int .i64 x.Match.Hi,.int .i64 x.Turn.Lo,.int .i64 x.Turn.Hi]
abbrev zE.ag (x:zE):Value:=.agg #[.int .i64 x.span.Lo,.int .i64 x.span.Hi,.bool x.has]
abbrev zB.ar (x:zB):Array Value:=#[.string x.s,.int .i64 x.at_,.string x.token,.int .i64 x.from_]
abbrev zK.ar (x:zK):Array Value:=#[.int .i64 x.Span.Lo,.int .i64 x.Span.Hi,.bool x.Has]
abbrev zK.ag (x:zK):Value:=.agg #[.int .i64 x.Span.Lo,.int .i64 x.Span.Hi,.bool x.Has]
abbrev zH.ax (x:zH) (adg1_:Option Addr) (capg2_:Nat) (mg4_:Nat) (mg5_:Nat):Array Value:=#[.string x.s.Site.Name,.int .i64 x.s.Site.X,.int .i64 x.s.Site.Y,.int .i64 x.s.Site.Z,.int .i64 x.s.Site.Rose,.int .i64 x.s.Site.Gates,.int .i64 x.s.Site.Step,.int .i64 x.s.Site.Width,.int .i64 x.s.Tilt,.int .i64 x.s.Time,.slice adg1_ x.s.Rays.length capg2_,.int .i64 x.n,.map (some mg4_),.map (some mg5_)]
abbrev zF.ax (x:zF) (adg1_:Option Addr) (capg2_:Nat):Array Value:=#[.string x.Site.Name,.int .i64 x.Site.X,.int .i64 x.Site.Y,.int .i64 x.Site.Z,.int .i64 x.Site.Rose,.int .i64 x.Site.Gates,.int .i64 x.Site.Step,.int .i64 x.Site.Width,.int .i64 x.Tilt,.int .i64 x.Time,.slice adg1_ x.Rays.length capg2_]
abbrev zJ.ax (x:zJ) (adg1_:Option Addr) (capg2_:Nat):Array Value:=#[.string x.Name,.int .i64 x.When.Op,.int .i64 x.When.Value_,.int .i64 x.When.Rays,.int .i64 x.When.Gates,.slice adg1_ x.When.Args.length capg2_]
abbrev zG.ax (x:zG) (adg1_:Option Addr) (capg2_:Nat):Array Value:=#[.int .i64 x.Op,.int .i64 x.Value_,.int .i64 x.Rays,.int .i64 x.Gates,.slice adg1_ x.Args.length capg2_]
abbrev zA.ax (x:zA) (adg1_:Option Addr) (capg2_:Nat):Array Value:=#[.int .i64 x.Op,.int .i64 x.Value_,.int .i64 x.Rays,.int .i64 x.Gates,.slice adg1_ x.Args.length capg2_]
abbrev zP.e0 (x:zP):Bool:=((x.Name==ByteArray.empty)&&(((x.X:Int)==0)&&(((x.Y:Int)==0)&&(((x.Z:Int)==0)&&(((x.Rose:Int)==0)&&(((x.Gates:Int)==0)&&(((x.Step:Int)==0)&&(((x.Width:Int)==0)&&true))))))))
abbrev zD.e0 (x:zD):Bool:=(((x.Kind:Int)==0)&&(((x.Power.Lo:Int)==0)&&(((x.Power.Hi:Int)==0)&&(((x.Steps.1.Lo:Int)==0)&&(((x.Steps.1.Hi:Int)==0)&&(((x.Steps.2.Lo:Int)==0)&&(((x.Steps.2.Hi:Int)==0)&&(((x.Spread:Int)==0)&&(((x.Ratio.Lo:Int)==0)&&(((x.Ratio.Hi:Int)==0)&&(((x.Match.Lo:Int)==0)&&(((x.Match.Hi:Int)==0)&&(((x.Turn.Lo:Int)==0)&&(((x.Turn.Hi:Int)==0)&&true))))))))))))))
abbrev zB.e0 (x:zB):Bool:=((x.s==ByteArray.empty)&&(((x.at_:Int)==0)&&((x.token==ByteArray.empty)&&(((x.from_:Int)==0)&&true))))
abbrev z83:Array Value:=#[.int .i64 0,.int .i64 0,.int .i64 0,.int .i64 0,.int .i64 0,.int .i64 0,.int .i64 0,.int .i64 0,.int .i64 0,.int .i64 0,.int .i64 0,.int .i64 0,.int .i64 0,.int .i64 0]
abbrev z50:Array Value:=#[.string ByteArray.empty,.int .i64 0,.int .i64 0,.int .i64 0,.int .i64 0,.int .i64 0,.int .i64 0,.int .i64 0,.int .i64 0,.int .i64 0,.slice none 0 0]
abbrev A8f:Array Value:=#[.string ByteArray.empty,.int .i64 0,.int .i64 0,.int .i64 0,.int .i64 0,.slice none 0 0]
abbrev z88:Array Value:=#[.int .i64 0,.int .i64 0,.int .i64 0,.int .i64 0,.slice none 0 0]
inductive Rp88:Frz->List Value->zG->Prop
  | mk_ {μ:Frz} {x:zG} (ad1:Option Addr) (cap2:Nat) (css3:List (List Value)):ArrM μ 5 (fN 5) ad1 cap2 css3->All2 (Rp88 μ) css3 x.Args->Rp88 μ [.int .i64 x.Op,.int .i64 x.Value_,.int .i64 x.Rays,.int .i64 x.Gates,.slice ad1 x.Args.length cap2] x
theorem Rp88.out {μ:Frz} {cs:List Value} {x:zG} (h:Rp88 μ cs x):∃(ad1:Option Addr) (cap2:Nat) (css3:List (List Value)),cs=[.int .i64 x.Op,.int .i64 x.Value_,.int .i64 x.Rays,.int .i64 x.Gates,.slice ad1 x.Args.length cap2]/\ArrQ μ 5 Rp88 ad1 cap2 css3 x.Args:=by
  cases h with
  | mk_ a b c h1 h2=>exact ⟨a,b,c,rfl,h1,h2⟩
theorem Rp88.in_ {μ:Frz} {cs:List Value} {x:zG} (h:∃(ad1:Option Addr) (cap2:Nat) (css3:List (List Value)),cs=[.int .i64 x.Op,.int .i64 x.Value_,.int .i64 x.Rays,.int .i64 x.Gates,.slice ad1 x.Args.length cap2]/\ArrQ μ 5 Rp88 ad1 cap2 css3 x.Args):Rp88 μ cs x:=by
  obtain ⟨a,b,c,rfl,h1,h2⟩:=h;exact .mk_ a b c h1 h2
theorem Rp88.mono_ {μ ν:Frz} (hle:μ.le ν):∀(x:zG) (cs:List Value),Rp88 μ cs x->Rp88 ν cs x
  | x,cs,h=>by
    obtain ⟨a,b,c,rfl,h1,h2⟩:=h.out;refine .mk_ a b c (h1.mono hle) ?_;have go:∀(m:List zG) (cs:List (List Value)),(∀y∈m,∀c,Rp88 μ c y->Rp88 ν c y)->All2 (Rp88 μ) cs m->All2 (Rp88 ν) cs m:=by
      intro m
      induction m with
      | nil=>intro cs _ h;cases h;exact .nil
      | cons y m ih=>intro cs hy h;cases h with|cons h3 h4=>exact .cons (hy y (by simp) _ h3) (ih _ (λz hz=>hy z (by simp [hz])) h4)
    exact go _ c (λy hy c=>Rp88.mono_ hle y c) h2
termination_by x=>SizeOf.sizeOf x
decreasing_by
  have h9:=List.sizeOf_lt_of_mem hy
  cases x
  simp +arith at *;omega
theorem Rp88.mono:Rel.Mono Rp88:=λ_ _ cs x hle h=>Rp88.mono_ hle x cs h
instance:RM Rp88:=⟨Rp88.mono⟩
def Rp101:Rel zN:=fun μ cs x=>∃(ad1:Option Addr) (cap2:Nat) (css3:List (List Value)),cs=[.string x.Name,.int .i64 x.When.Op,.int .i64 x.When.Value_,.int .i64 x.When.Rays,.int .i64 x.When.Gates,.slice ad1 x.When.Args.length cap2]/\ArrQ μ 5 Rp88 ad1 cap2 css3 x.When.Args
theorem Rp101.mono:Rel.Mono Rp101:=by
  intro μ ν cs x hle h;obtain ⟨ad1,cap2,css3,rfl,f0⟩:=h;exact ⟨ad1,cap2,css3,rfl,f0.mono Rp88.mono hle⟩
instance:RM Rp101:=⟨Rp101.mono⟩
inductive Rp63:Frz->List Value->zA->Prop
  | mk_ {μ:Frz} {x:zA} (ad1:Option Addr) (cap2:Nat) (css3:List (List Value)):ArrM μ 5 (fN 5) ad1 cap2 css3->All2 (Rp63 μ) css3 x.Args->Rp63 μ [.int .i64 x.Op,.int .i64 x.Value_,.int .i64 x.Rays,.int .i64 x.Gates,.slice ad1 x.Args.length cap2] x
theorem Rp63.out {μ:Frz} {cs:List Value} {x:zA} (h:Rp63 μ cs x):∃(ad1:Option Addr) (cap2:Nat) (css3:List (List Value)),cs=[.int .i64 x.Op,.int .i64 x.Value_,.int .i64 x.Rays,.int .i64 x.Gates,.slice ad1 x.Args.length cap2]/\ArrQ μ 5 Rp63 ad1 cap2 css3 x.Args:=by
  cases h with
  | mk_ a b c h1 h2=>exact ⟨a,b,c,rfl,h1,h2⟩
theorem Rp63.in_ {μ:Frz} {cs:List Value} {x:zA} (h:∃(ad1:Option Addr) (cap2:Nat) (css3:List (List Value)),cs=[.int .i64 x.Op,.int .i64 x.Value_,.int .i64 x.Rays,.int .i64 x.Gates,.slice ad1 x.Args.length cap2]/\ArrQ μ 5 Rp63 ad1 cap2 css3 x.Args):Rp63 μ cs x:=by
  obtain ⟨a,b,c,rfl,h1,h2⟩:=h;exact .mk_ a b c h1 h2
theorem Rp63.mono_ {μ ν:Frz} (hle:μ.le ν):∀(x:zA) (cs:List Value),Rp63 μ cs x->Rp63 ν cs x
  | x,cs,h=>by
    obtain ⟨a,b,c,rfl,h1,h2⟩:=h.out;refine .mk_ a b c (h1.mono hle) ?_;have go:∀(m:List zA) (cs:List (List Value)),(∀y∈m,∀c,Rp63 μ c y->Rp63 ν c y)->All2 (Rp63 μ) cs m->All2 (Rp63 ν) cs m:=by
      intro m
      induction m with
      | nil=>intro cs _ h;cases h;exact .nil
      | cons y m ih=>intro cs hy h;cases h with|cons h3 h4=>exact .cons (hy y (by simp) _ h3) (ih _ (λz hz=>hy z (by simp [hz])) h4)
    exact go _ c (λy hy c=>Rp63.mono_ hle y c) h2
termination_by x=>SizeOf.sizeOf x
decreasing_by
  have h9:=List.sizeOf_lt_of_mem hy
  cases x
  simp +arith at *;omega
theorem Rp63.mono:Rel.Mono Rp63:=λ_ _ cs x hle h=>Rp63.mono_ hle x cs h
instance:RM Rp63:=⟨Rp63.mono⟩
theorem Rp63.one:Rel.One 5 Rp63:=by
  intro μ cs x h;obtain ⟨a,b,c,rfl,h1⟩:=h.out
  all_goals rfl
def Rp65:Rel zJ:=fun μ cs x=>∃(ad1:Option Addr) (cap2:Nat) (css3:List (List Value)),cs=[.string x.Name,.int .i64 x.When.Op,.int .i64 x.When.Value_,.int .i64 x.When.Rays,.int .i64 x.When.Gates,.slice ad1 x.When.Args.length cap2]/\ArrQ μ 5 Rp63 ad1 cap2 css3 x.When.Args
theorem Rp65.mono:Rel.Mono Rp65:=by
  intro μ ν cs x hle h;obtain ⟨ad1,cap2,css3,rfl,f0⟩:=h;exact ⟨ad1,cap2,css3,rfl,f0.mono Rp63.mono hle⟩
instance:RM Rp65:=⟨Rp65.mono⟩
theorem Rp65.one:Rel.One 6 Rp65:=by
  intro μ cs x h;obtain ⟨ad1,cap2,css3,rfl,f0⟩:=h
  all_goals rfl
def Rp78:Rel (List zD):=fun μ cs x=>∃(ad1:Option Addr) (cap2:Nat),cs=[.slice ad1 x.length cap2]/\ArrM μ 14 zD.cells ad1 cap2 x
theorem Rp78.mono:Rel.Mono Rp78:=by
  intro μ ν cs x hle h;obtain ⟨ad1,cap2,rfl,f0⟩:=h;exact ⟨ad1,cap2,rfl,f0.mono hle⟩
instance:RM Rp78:=⟨Rp78.mono⟩
theorem Rp78.one:Rel.One 1 Rp78:=by
  intro μ cs x h;obtain ⟨ad1,cap2,rfl,f0⟩:=h
  all_goals rfl
def Rp183:Rel zH:=fun μ cs x=>∃(ad1:Option Addr) (cap2:Nat) (css3:List (List Value)) (m4:Nat) (m5:Nat),cs=[.string x.s.Site.Name,.int .i64 x.s.Site.X,.int .i64 x.s.Site.Y,.int .i64 x.s.Site.Z,.int .i64 x.s.Site.Rose,.int .i64 x.s.Site.Gates,.int .i64 x.s.Site.Step,.int .i64 x.s.Site.Width,.int .i64 x.s.Tilt,.int .i64 x.s.Time,.slice ad1 x.s.Rays.length cap2,.int .i64 x.n,.map (some m4),.map (some m5)]/\ArrQ μ 1 Rp78 ad1 cap2 css3 x.s.Rays
theorem Rp183.mono:Rel.Mono Rp183:=by
  intro μ ν cs x hle h;obtain ⟨ad1,cap2,css3,m4,m5,rfl,f0⟩:=h;exact ⟨ad1,cap2,css3,m4,m5,rfl,f0.mono Rp78.mono hle⟩
instance:RM Rp183:=⟨Rp183.mono⟩
def Rp57:Rel (List Int):=fun μ cs x=>∃(ad1:Option Addr) (cap2:Nat),cs=[.slice ad1 x.length cap2]/\ArrM μ 1 fI ad1 cap2 x
theorem Rp57.mono:Rel.Mono Rp57:=by
  intro μ ν cs x hle h;obtain ⟨ad1,cap2,rfl,f0⟩:=h;exact ⟨ad1,cap2,rfl,f0.mono hle⟩
instance:RM Rp57:=⟨Rp57.mono⟩
theorem Rp57.one:Rel.One 1 Rp57:=by
  intro μ cs x h;obtain ⟨ad1,cap2,rfl,f0⟩:=h
  all_goals rfl
def Rp59:Rel zL:=fun μ cs x=>∃(ad1:Option Addr) (cap2:Nat),cs=[.int .i64 x.Rule,.slice ad1 x.Doubts.length cap2]/\ArrM μ 1 fI ad1 cap2 x.Doubts
theorem Rp59.mono:Rel.Mono Rp59:=by
  intro μ ν cs x hle h;obtain ⟨ad1,cap2,rfl,f0⟩:=h;exact ⟨ad1,cap2,rfl,f0.mono hle⟩
instance:RM Rp59:=⟨Rp59.mono⟩
theorem Rp59.one:Rel.One 2 Rp59:=by
  intro μ cs x h;obtain ⟨ad1,cap2,rfl,f0⟩:=h
  all_goals rfl
def Rp56:Rel (List zL):=fun μ cs x=>∃(ad1:Option Addr) (cap2:Nat) (css3:List (List Value)),cs=[.slice ad1 x.length cap2]/\ArrQ μ 2 Rp59 ad1 cap2 css3 x
theorem Rp56.mono:Rel.Mono Rp56:=by
  intro μ ν cs x hle h;obtain ⟨ad1,cap2,css3,rfl,f0⟩:=h;exact ⟨ad1,cap2,css3,rfl,f0.mono Rp59.mono hle⟩
instance:RM Rp56:=⟨Rp56.mono⟩
def Rp161:Rel (List zK):=fun μ cs x=>∃(ad1:Option Addr) (cap2:Nat),cs=[.slice ad1 x.length cap2]/\ArrM μ 3 zK.cells ad1 cap2 x
theorem Rp161.mono:Rel.Mono Rp161:=by
  intro μ ν cs x hle h;obtain ⟨ad1,cap2,rfl,f0⟩:=h;exact ⟨ad1,cap2,rfl,f0.mono hle⟩
instance:RM Rp161:=⟨Rp161.mono⟩
theorem Rp161.one:Rel.One 1 Rp161:=by
  intro μ cs x h;obtain ⟨ad1,cap2,rfl,f0⟩:=h
  all_goals rfl
def Rp162:Rel (List (List zK)):=fun μ cs x=>∃(ad1:Option Addr) (cap2:Nat) (css3:List (List Value)),cs=[.slice ad1 x.length cap2]/\ArrQ μ 1 Rp161 ad1 cap2 css3 x
theorem Rp162.mono:Rel.Mono Rp162:=by
  intro μ ν cs x hle h;obtain ⟨ad1,cap2,css3,rfl,f0⟩:=h;exact ⟨ad1,cap2,css3,rfl,f0.mono Rp161.mono hle⟩
instance:RM Rp162:=⟨Rp162.mono⟩
theorem Rp162.one:Rel.One 1 Rp162:=by
  intro μ cs x h;obtain ⟨ad1,cap2,css3,rfl,f0⟩:=h
  all_goals rfl
def Rp142:Rel (List (List Int)):=fun μ cs x=>∃(ad1:Option Addr) (cap2:Nat) (css3:List (List Value)),cs=[.slice ad1 x.length cap2]/\ArrQ μ 1 Rp57 ad1 cap2 css3 x
theorem Rp142.mono:Rel.Mono Rp142:=by
  intro μ ν cs x hle h;obtain ⟨ad1,cap2,css3,rfl,f0⟩:=h;exact ⟨ad1,cap2,css3,rfl,f0.mono Rp57.mono hle⟩
instance:RM Rp142:=⟨Rp142.mono⟩
theorem Rp142.one:Rel.One 1 Rp142:=by
  intro μ cs x h;obtain ⟨ad1,cap2,css3,rfl,f0⟩:=h
  all_goals rfl
def Rp106:Rel zM:=fun μ cs x=>∃(ad1:Option Addr) (cap2:Nat),cs=[.int .i64 x.Rule,.slice ad1 x.Doubts.length cap2]/\ArrM μ 1 fI ad1 cap2 x.Doubts
theorem Rp106.mono:Rel.Mono Rp106:=by
  intro μ ν cs x hle h;obtain ⟨ad1,cap2,rfl,f0⟩:=h;exact ⟨ad1,cap2,rfl,f0.mono hle⟩
instance:RM Rp106:=⟨Rp106.mono⟩
theorem Rp106.one:Rel.One 2 Rp106:=by
  intro μ cs x h;obtain ⟨ad1,cap2,rfl,f0⟩:=h
  all_goals rfl
def Rp105:Rel (List zM):=fun μ cs x=>∃(ad1:Option Addr) (cap2:Nat) (css3:List (List Value)),cs=[.slice ad1 x.length cap2]/\ArrQ μ 2 Rp106 ad1 cap2 css3 x
theorem Rp105.mono:Rel.Mono Rp105:=by
  intro μ ν cs x hle h;obtain ⟨ad1,cap2,css3,rfl,f0⟩:=h;exact ⟨ad1,cap2,css3,rfl,f0.mono Rp106.mono hle⟩
instance:RM Rp105:=⟨Rp105.mono⟩
theorem Rp105.one:Rel.One 1 Rp105:=by
  intro μ cs x h;obtain ⟨ad1,cap2,css3,rfl,f0⟩:=h
  all_goals rfl
def Jp (p0:ByteArray):Bool:=A9t p0
def C4 (p0:ByteArray) (p1:Int):Int:=Lib.indexByte p0.data.toList p1.toNat.toUInt8
def Bb (F:Nat) (p0 p1:ByteArray):Option Bool:=match p1.data.toList with|[c]=>some (decide (0<=Lib.indexByte p0.data.toList c))|_=>none
def strconv_Itoa (F:Nat) (p0:Int):Option ByteArray:=if -9223372036854775808<=p0/\p0<=9223372036854775807 then some ⟨(Lib.itoa p0).toArray⟩ else none
def A2j (F:Nat) (p0:Bool×List Int):Option (Bool×List Int):=some (true,p0.2)
def Xp (F:Nat) (p0:Bool×List Int):Option ByteArray:=some (bst p0.2)
def Qt (a0:Int):Option Int:=some a0
def Nl (self_:zG->Int->Option Int) (p0:zG) (p1:Int) (k2:Int->Int->Option Int) (a0:Int) (a1:Int):Option Int:=bif (bif (decide (a1<(p0.Args.length:Int))) then (decide (a0<=p1)) else false) then ((getI p0.Args a1).bind λa2=>(ck (p1-a0)).bind λa3=>(self_ a2 a3).bind λa6=>(ck (a0+a6)).bind λa4=>(ck (a1+1)).bind λa5=>k2 a4 a5) else (Qt a0)
def Km (self_:zG->Int->Option Int) (p0:zG) (p1:Int):Nat->Int->Int->Option Int
  | 0,_,_=>none
  | n+1,a0,a1=>Nl self_ p0 p1 (Km self_ p0 p1 n) a0 a1
def U9 (F:Nat) (self_:zG->Int->Option Int) (p0:zG) (p1:Int):Option Int:=Km self_ p0 p1 F 1 0
def E3:Nat->zG->Int->Option Int
  | 0,_,_=>none
  | F+1,p0,p1=>U9 F (E3 F) p0 p1
def Ss (p0:List zN) (a0:Int):Option Bool:=some (bif (decide (a0<=400)) then (decide ((p0.length:Int)<=40)) else false)
def Qf (F:Nat) (p0:List zN) (k2:Int->Int->Option Bool) (a0:Int) (a1:Int):Option Bool:=bif (bif (decide (a1<(p0.length:Int))) then (decide (a0<=400)) else false) then ((getI p0 a1).bind λa2=>(E3 F a2.When 400).bind λa5=>(ck (a0+a5)).bind λa3=>(ck (a1+1)).bind λa4=>k2 a3 a4) else (Ss p0 a0)
def P0 (F:Nat) (p0:List zN):Nat->Int->Int->Option Bool
  | 0,_,_=>none
  | n+1,a0,a1=>Qf F p0 (P0 F p0 n) a0 a1
def Xc (F:Nat) (p0:List zN):Option Bool:=P0 F p0 F 0 0
def M0 (a0:Int):Option Int:=some a0
def Fj (self_:zA->Int->Option Int) (p0:zA) (p1:Int) (k2:Int->Int->Option Int) (a1:Int) (a0:Int):Option Int:=bif (decide (a1<(p0.Args.length:Int))) then ((getI p0.Args a1).bind λa2=>bif (decide (a0>p1)) then (M0 a0) else ((ck (p1-a0)).bind λa3=>(self_ a2 a3).bind λa6=>(ck (a0+a6)).bind λa4=>(ck (a1+1)).bind λa5=>k2 a5 a4)) else (M0 a0)
def Cg (self_:zA->Int->Option Int) (p0:zA) (p1:Int):Nat->Int->Int->Option Int
  | 0,_,_=>none
  | n+1,a0,a1=>Fj self_ p0 p1 (Cg self_ p0 p1 n) a0 a1
def Tm (F:Nat) (self_:zA->Int->Option Int) (p0:zA) (p1:Int):Option Int:=Cg self_ p0 p1 F 0 1
def Ct:Nat->zA->Int->Option Int
  | 0,_,_=>none
  | F+1,p0,p1=>Tm F (Ct F) p0 p1
def beam_Name (F:Nat) (p0:ByteArray):Option Bool:=(gd (((bif (!(sEq p0 (⟨#[]⟩:ByteArray))) then (decide (((p0.size:Nat):Int)<=12)) else false)==true&&true)) (Ts p0 (0:Int)) default).bind λu1=>(gd (((bif (bif (!(sEq p0 (⟨#[]⟩:ByteArray))) then (decide (((p0.size:Nat):Int)<=12)) else false) then (decide (u1>=97)) else false)==true&&true)) (Ts p0 (0:Int)) default).bind λu2=>some (bif (bif (bif (bif (!(sEq p0 (⟨#[]⟩:ByteArray))) then (decide (((p0.size:Nat):Int)<=12)) else false) then (decide (u1>=97)) else false) then (decide (u2<=122)) else false) then (!(Jp p0)) else false)
def Bj:(So ByteArray 28):=(⟨[(⟨#[]⟩:ByteArray),(⟨#[116,114,117,101]⟩:ByteArray),(⟨#[102,97,108,115,101]⟩:ByteArray),(⟨#[110,111,116]⟩:ByteArray),(⟨#[97,110,100]⟩:ByteArray),(⟨#[111,114]⟩:ByteArray),(⟨#[115,111,109,101]⟩:ByteArray),(⟨#[97,108,108]⟩:ByteArray),(⟨#[60]⟩:ByteArray),(⟨#[60,61]⟩:ByteArray),(⟨#[62]⟩:ByteArray),(⟨#[62,61]⟩:ByteArray),(⟨#[61]⟩:ByteArray),(⟨#[33,61]⟩:ByteArray),(⟨#[]⟩:ByteArray),(⟨#[112,111,119,101,114]⟩:ByteArray),(⟨#[114,97,116,105,111]⟩:ByteArray),(⟨#[109,97,116,99,104]⟩:ByteArray),(⟨#[115,112,114,101,97,100]⟩:ByteArray),(⟨#[116,117,114,110]⟩:ByteArray),(⟨#[115,116,101,112]⟩:ByteArray),(⟨#[107,105,110,100]⟩:ByteArray),(⟨#[114,97,121]⟩:ByteArray),(⟨#[103,97,116,101]⟩:ByteArray),(⟨#[116,105,108,116]⟩:ByteArray),(⟨#[99,111,117,110,116]⟩:ByteArray),(⟨#[43]⟩:ByteArray),(⟨#[45]⟩:ByteArray)],rfl⟩:So ByteArray 28)
def G9:Option Int:=some (-1)
def Cr (p0:List ByteArray) (p1:ByteArray) (k2:Int->Option Int) (a0:Int):Option Int:=bif (decide (a0<(p0.length:Int))) then ((getI p0 a0).bind λa1=>bif (sEq p1 a1) then (some a0) else ((ck (a0+1)).bind λa2=>k2 a2)) else (G9)
def C7 (p0:List ByteArray) (p1:ByteArray):Nat->Int->Option Int
  | 0,_=>none
  | n+1,a0=>Cr p0 p1 (C7 p0 p1 n) a0
def F9 (F:Nat) (p0:List ByteArray) (p1:ByteArray):Option Int:=C7 p0 p1 F 0
def P9 (F:Nat) (p0:ByteArray) (p1:Int) (p2:Int):Option Int:=(ck (p2+1)).bind λx2=>(Wb Bj.1 p1 x2).bind λl3=>(F9 F l3 p0).bind λy4=>bif (bif (decide (y4>=0)) then (!(sEq p0 (⟨#[]⟩:ByteArray))) else false) then ((ck (p1+y4)).bind λx5=>some x5) else (some 0)
def sift_word (F:Nat) (p0:ByteArray):Option Bool:=(P9 F p0 1 7).bind λy1=>(gd (((decide (y1>0))==false&&true)) (P9 F p0 15 25) default).bind λy2=>some (bif (decide (y1>0)) then true else (decide (y2>0)))
def P7 (p0:zJ) (c0_:zJ):Bool:=sEq p0.Name c0_.Name
def Qx (a0:Int):Option Int:=(ck (a0+1)).bind λa1=>some a1
def Jn (self_:zA->Option Int) (p0:zA) (k2:Int->Int->Option Int) (a0:Int) (a1:Int):Option Int:=bif (decide (a1<(p0.Args.length:Int))) then ((getI p0.Args a1).bind λa3=>(self_ a3).bind λa2=>(ck (a1+1)).bind λa4=>k2 (if a2>a0 then a2 else a0) a4) else (Qx a0)
def E9 (self_:zA->Option Int) (p0:zA):Nat->Int->Int->Option Int
  | 0,_,_=>none
  | n+1,a0,a1=>Jn self_ p0 (E9 self_ p0 n) a0 a1
def Wv (F:Nat) (self_:zA->Option Int) (p0:zA):Option Int:=E9 self_ p0 F 0 0
def Fg:Nat->zA->Option Int
  | 0,_=>none
  | F+1,p0=>Wv F (Fg F) p0
def sift_isCondition (p0:zA):Bool:=bif (decide (p0.Op>=1)) then (decide (p0.Op<=13)) else false
def sift_isValue (p0:zA):Bool:=bif (decide (p0.Op>=14)) then (decide (p0.Op<=27)) else false
def Nq (p0:zA):Option Bool:=bif (decide (p0.Op<26)) then (some true) else ((getI p0.Args 1).bind λa0=>some (decide (a0.Op<26)))
def Ch (self_:zA->Option Bool) (p0:zA) (k2:Int->Option Bool) (a1:Int):Option Bool:=bif (decide (a1<(p0.Args.length:Int))) then ((getI p0.Args a1).bind λa0=>(gd (((!(sift_isCondition a0))==false&&true)) (self_ a0) default).bind λa3=>bif (bif (!(sift_isCondition a0)) then true else (!a3)) then (some false) else ((ck (a1+1)).bind λa2=>k2 a2)) else (Nq p0)
def Kv (self_:zA->Option Bool) (p0:zA):Nat->Int->Option Bool
  | 0,_=>none
  | n+1,a0=>Ch self_ p0 (Kv self_ p0 n) a0
def Ns (p0:zA):Option Bool:=bif (decide (p0.Op<26)) then (some true) else ((getI p0.Args 1).bind λa0=>some (decide (a0.Op<26)))
def Ci (self_:zA->Option Bool) (p0:zA) (k4:Int->Option Bool) (a1:Int):Option Bool:=bif (decide (a1<(p0.Args.length:Int))) then ((getI p0.Args a1).bind λa0=>(gd (((!(sift_isCondition a0))==false&&true)) (self_ a0) default).bind λa3=>bif (bif (!(sift_isCondition a0)) then true else (!a3)) then (some false) else ((ck (a1+1)).bind λa2=>k4 a2)) else (Ns p0)
def Kw (self_:zA->Option Bool) (p0:zA):Nat->Int->Option Bool
  | 0,_=>none
  | n+1,a0=>Ci self_ p0 (Kw self_ p0 n) a0
def Nt (p0:zA):Option Bool:=bif (decide (p0.Op<26)) then (some true) else ((getI p0.Args 1).bind λa0=>some (decide (a0.Op<26)))
def Cj (self_:zA->Option Bool) (p0:zA) (k6:Int->Option Bool) (a1:Int):Option Bool:=bif (decide (a1<(p0.Args.length:Int))) then ((getI p0.Args a1).bind λa0=>(gd (((!(sift_isCondition a0))==false&&true)) (self_ a0) default).bind λa3=>bif (bif (!(sift_isCondition a0)) then true else (!a3)) then (some false) else ((ck (a1+1)).bind λa2=>k6 a2)) else (Nt p0)
def Kx (self_:zA->Option Bool) (p0:zA):Nat->Int->Option Bool
  | 0,_=>none
  | n+1,a0=>Cj self_ p0 (Kx self_ p0 n) a0
def Nu (p0:zA):Option Bool:=bif (decide (p0.Op<26)) then (some true) else ((getI p0.Args 1).bind λa0=>some (decide (a0.Op<26)))
def Ck (self_:zA->Option Bool) (p0:zA) (k8:Int->Option Bool) (a1:Int):Option Bool:=bif (decide (a1<(p0.Args.length:Int))) then ((getI p0.Args a1).bind λa0=>(gd (((!(sift_isValue a0))==false&&true)) (self_ a0) default).bind λa3=>bif (bif (!(sift_isValue a0)) then true else (!a3)) then (some false) else ((ck (a1+1)).bind λa2=>k8 a2)) else (Nu p0)
def Ky (self_:zA->Option Bool) (p0:zA):Nat->Int->Option Bool
  | 0,_=>none
  | n+1,a0=>Ck self_ p0 (Ky self_ p0 n) a0
def R0 (p0:zA):Option Bool:=bif (decide (p0.Op<26)) then (some true) else ((getI p0.Args 1).bind λa0=>some (decide (a0.Op<26)))
def Ea (self_:zA->Option Bool) (p0:zA) (a2:Int->Option Bool) (a1:Int):Option Bool:=bif (decide (a1<(p0.Args.length:Int))) then ((getI p0.Args a1).bind λa0=>(gd (((!(sift_isCondition a0))==false&&true)) (self_ a0) default).bind λa4=>bif (bif (!(sift_isCondition a0)) then true else (!a4)) then (some false) else ((ck (a1+1)).bind λa3=>a2 a3)) else (R0 p0)
def M3 (self_:zA->Option Bool) (p0:zA):Nat->Int->Option Bool
  | 0,_=>none
  | n+1,a0=>Ea self_ p0 (M3 self_ p0 n) a0
def Px (p0:zA):Option Bool:=bif (decide (p0.Op<26)) then (some true) else ((getI p0.Args 1).bind λa0=>some (decide (a0.Op<26)))
def Eb (self_:zA->Option Bool) (p0:zA) (a2:Int->Option Bool) (a1:Int):Option Bool:=bif (decide (a1<(p0.Args.length:Int))) then ((getI p0.Args a1).bind λa0=>(gd (((!(sift_isCondition a0))==false&&true)) (self_ a0) default).bind λa4=>bif (bif (!(sift_isCondition a0)) then true else (!a4)) then (some false) else ((ck (a1+1)).bind λa3=>a2 a3)) else (Px p0)
def M4 (self_:zA->Option Bool) (p0:zA):Nat->Int->Option Bool
  | 0,_=>none
  | n+1,a0=>Eb self_ p0 (M4 self_ p0 n) a0
def E8 (F:Nat) (self_:zA->Option Bool) (p0:zA):Option Bool:=bif (p0.Op==3) then (bif (bif (bif (bif ((p0.Args.length:Int) != 1) then true else (decide ((if p0.Gates<if p0.Rays<p0.Value_ then p0.Rays else p0.Value_ then p0.Gates else if p0.Rays<p0.Value_ then p0.Rays else p0.Value_)<0))) then true else (decide (p0.Value_>0))) then true else (decide ((if p0.Gates>p0.Rays then p0.Gates else p0.Rays)>0))) then (some false) else (Kv self_ p0 F 0)) else (bif (bif (p0.Op==4) then true else (p0.Op==5)) then (bif (bif (bif (bif ((p0.Args.length:Int) != 2) then true else (decide ((if p0.Gates<if p0.Rays<p0.Value_ then p0.Rays else p0.Value_ then p0.Gates else if p0.Rays<p0.Value_ then p0.Rays else p0.Value_)<0))) then true else (decide (p0.Value_>0))) then true else (decide ((if p0.Gates>p0.Rays then p0.Gates else p0.Rays)>0))) then (some false) else (Kw self_ p0 F 0)) else (bif (bif (bif (p0.Op==6) then true else (p0.Op==7)) then true else (p0.Op==25)) then (bif (bif (bif (bif ((p0.Args.length:Int) != 1) then true else (decide ((if p0.Gates<if p0.Rays<p0.Value_ then p0.Rays else p0.Value_ then p0.Gates else if p0.Rays<p0.Value_ then p0.Rays else p0.Value_)<0))) then true else (decide (p0.Value_>0))) then true else (decide ((if p0.Gates>p0.Rays then p0.Gates else p0.Rays)>3))) then (some false) else (Kx self_ p0 F 0)) else (bif (bif (bif (bif (decide (p0.Op>=8)) then (decide (p0.Op<=13)) else false) then true else (p0.Op==26)) then true else (p0.Op==27)) then (bif (bif (bif (bif ((p0.Args.length:Int) != 2) then true else (decide ((if p0.Gates<if p0.Rays<p0.Value_ then p0.Rays else p0.Value_ then p0.Gates else if p0.Rays<p0.Value_ then p0.Rays else p0.Value_)<0))) then true else (decide (p0.Value_>0))) then true else (decide ((if p0.Gates>p0.Rays then p0.Gates else p0.Rays)>0))) then (some false) else (Ky self_ p0 F 0)) else (bif (p0.Op==14) then (bif (bif (bif (bif ((p0.Args.length:Int) != 0) then true else (decide ((if p0.Gates<if p0.Rays<p0.Value_ then p0.Rays else p0.Value_ then p0.Gates else if p0.Rays<p0.Value_ then p0.Rays else p0.Value_)<0))) then true else (decide (p0.Value_>1000000000))) then true else (decide ((if p0.Gates>p0.Rays then p0.Gates else p0.Rays)>0))) then (some false) else (M3 self_ p0 F 0)) else (bif (bif (!(sift_isCondition p0)) then (!(sift_isValue p0)) else false) then (some false) else (bif (bif (bif (bif ((p0.Args.length:Int) != 0) then true else (decide ((if p0.Gates<if p0.Rays<p0.Value_ then p0.Rays else p0.Value_ then p0.Gates else if p0.Rays<p0.Value_ then p0.Rays else p0.Value_)<0))) then true else (decide (p0.Value_>0))) then true else (decide ((if p0.Gates>p0.Rays then p0.Gates else p0.Rays)>0))) then (some false) else (M4 self_ p0 F 0)))))))
def Bs:Nat->zA->Option Bool
  | 0,_=>none
  | F+1,p0=>E8 F (Bs F) p0
def Cm:Option Int:=some (-1)
def B0 (p0:List zJ) (c1_0_:zJ) (k2:Int->Option Int) (a0:Int):Option Int:=bif (decide (a0<(p0.length:Int))) then ((getI p0 a0).bind λa1=>bif (P7 a1 c1_0_) then (some a0) else ((ck (a0+1)).bind λa2=>k2 a2)) else (Cm)
def Ay (p0:List zJ) (c1_0_:zJ):Nat->Int->Option Int
  | 0,_=>none
  | n+1,a0=>B0 p0 c1_0_ (Ay p0 c1_0_ n) a0
def Bq (F:Nat) (p0:List zJ) (c1_0_:zJ):Option Int:=Ay p0 c1_0_ F 0
def B4 (F:Nat) (p0:List zJ) (c1_0_:zJ):Option Bool:=(Bq F p0 c1_0_).bind λa0=>some (decide (a0>=0))
def Ud:Option Int:=some 0
def Jr (F:Nat) (p0:List zJ) (k3:Int->Option Int) (a1:Int):Option Int:=bif (decide (a1<(p0.length:Int))) then ((getI p0 a1).bind λa0=>(beam_Name F a0.Name).bind λa2=>(gd (((!a2)==false&&true)) (sift_word F a0.Name) default).bind λa5=>bif (bif (!a2) then true else a5) then (some 10) else ((Wb p0 (0:Int) a1).bind λa3=>(B4 F a3 a0).bind λa6=>bif a6 then (some 5) else ((Fg F a0.When).bind λa7=>bif (decide (a7>12)) then (some 24) else ((gd (((!(sift_isCondition a0.When))==false&&true)) (Bs F a0.When) default).bind λa8=>bif (bif (!(sift_isCondition a0.When)) then true else (!a8)) then (some 2) else ((ck (a1+1)).bind λa4=>k3 a4))))) else (Ud)
def M9 (F:Nat) (p0:List zJ):Nat->Int->Option Int
  | 0,_=>none
  | n+1,a0=>Jr F p0 (M9 F p0 n) a0
def Uc (F:Nat) (p0:List zJ):Option Int:=M9 F p0 F 0
def Js (F:Nat) (p0:List zJ) (k4:Int->Int->Option Int) (a0:Int) (a3:Int):Option Int:=bif (decide (a0<(p0.length:Int))) then ((getI p0 a0).bind λa2=>(Ct F a2.When 300).bind λa5=>(ck (a3+a5)).bind λa1=>bif (decide (a1>300)) then (some 9) else ((ck (a0+1)).bind λa4=>k4 a4 a1)) else (Uc F p0)
def Ma (F:Nat) (p0:List zJ):Nat->Int->Int->Option Int
  | 0,_,_=>none
  | n+1,a0,a1=>Js F p0 (Ma F p0 n) a0 a1
def J5 (F:Nat) (p0:List zJ):Option Int:=bif (decide ((p0.length:Int)>32)) then (some 9) else (Ma F p0 F 0 0)
def Gi (F:Nat) (p0:Bool×List Int) (p1:ByteArray):Option (Int×Unit×(Bool×List Int)):=(A2j F (p0.1,p0.2)).bind λy3=>(apd 1 y3.2 (sby p1)).bind λl9=>some (((p1.size:Nat):Int),(),(y3.1,l9))
def Hb (F:Nat) (self_:zA->Option ByteArray) (p0:zA):Option ByteArray:=(A3c Bj p0.Op).bind λu6=>bif (p0.Op==14) then ((strconv_Itoa F p0.Value_).bind λy7=>some y7) else (bif (p0.Op==3) then ((Sq u6 (⟨#[32]⟩:ByteArray)).bind λs8=>(getI p0.Args 0).bind λu9=>(self_ u9).bind λaG=>(Sq s8 aG).bind λa1=>some a1) else (bif ((p0.Args.length:Int)==1) then ((Sq u6 (⟨#[32]⟩:ByteArray)).bind λa2=>(strconv_Itoa F p0.Rays).bind λaH=>(Sq a2 aH).bind λa3=>(Sq a3 (⟨#[32]⟩:ByteArray)).bind λa4=>(strconv_Itoa F p0.Gates).bind λaI=>(Sq a4 aI).bind λa5=>(Sq a5 (⟨#[32]⟩:ByteArray)).bind λa6=>(getI p0.Args 0).bind λaD=>(self_ aD).bind λaJ=>(Sq a6 aJ).bind λa7=>some a7) else (bif ((p0.Args.length:Int)==0) then (some u6) else ((getI p0.Args 0).bind λaE=>(self_ aE).bind λaK=>(Sq aK (⟨#[32]⟩:ByteArray)).bind λa8=>(Sq a8 u6).bind λa9=>(Sq a9 (⟨#[32]⟩:ByteArray)).bind λaA=>(getI p0.Args 1).bind λaF=>(self_ aF).bind λaL=>(Sq aA aL).bind λa0=>bif (decide (p0.Op<14)) then ((Sq (⟨#[40]⟩:ByteArray) a0).bind λaB=>(Sq aB (⟨#[41]⟩:ByteArray)).bind λaC=>some aC) else (some a0)))))
def Di:Nat->zA->Option ByteArray
  | 0,_=>none
  | F+1,p0=>Hb F (Di F) p0
def N6 (F:Nat) (p0:Bool×List Int):Option (Int×(Bool×List Int)):=some ((p0.2.length:Int),(p0.1,p0.2))
def Uk (F:Nat) (a1:Bool) (a2:List Int):Option (ByteArray×Int):=(N6 F (a1,a2)).bind λa0=>bif (decide (a0.1>65536)) then (some ((⟨#[]⟩:ByteArray),8)) else ((Xp F (a0.2.1,a0.2.2)).bind λa3=>some (a3,0))
def Uj (F:Nat) (p0:List zJ) (k2:Bool->List Int->Int->Option (ByteArray×Int)) (a1:Bool) (a2:List Int) (a0:Int):Option (ByteArray×Int):=bif (decide (a0<(p0.length:Int))) then ((getI p0 a0).bind λa3=>(Sq a3.Name (⟨#[58,32]⟩:ByteArray)).bind λa5=>(Di F a3.When).bind λa9=>(Sq a5 a9).bind λa6=>(Sq a6 (⟨#[59,10]⟩:ByteArray)).bind λa7=>(Gi F (a1,a2) a7).bind λa4=>(ck (a0+1)).bind λa8=>k2 a4.2.2.1 a4.2.2.2 a8) else (Uk F a1 a2)
def Rz (F:Nat) (p0:List zJ):Nat->Bool->List Int->Int->Option (ByteArray×Int)
  | 0,_,_,_=>none
  | n+1,a0,a1,a2=>Uj F p0 (Rz F p0 n) a0 a1 a2
def Vg (F:Nat) (p0:List zJ):Option (ByteArray×Int):=(J5 F p0).bind λy5=>bif (y5 != 0) then (some ((⟨#[]⟩:ByteArray),y5)) else (Rz F p0 F false ([]) 0)
def Wy (p0:zA) (a0:Int) (a1:Int):Option (Int×Int):=(ck (a0+p0.Rays)).bind λa2=>(ck (a1+p0.Gates)).bind λa3=>some (a2,a3)
def Wx (self_:zA->Option (Int×Int)) (p0:zA) (k2:Int->Int->Int->Option (Int×Int)) (a1:Int) (a2:Int) (a3:Int):Option (Int×Int):=bif (decide (a1<(p0.Args.length:Int))) then ((getI p0.Args a1).bind λa4=>(self_ a4).bind λa0=>(ck (a1+1)).bind λa5=>k2 a5 (if a0.1>a2 then a0.1 else a2) (if a0.2>a3 then a0.2 else a3)) else (Wy p0 a2 a3)
def U3 (self_:zA->Option (Int×Int)) (p0:zA):Nat->Int->Int->Int->Option (Int×Int)
  | 0,_,_,_=>none
  | n+1,a0,a1,a2=>Wx self_ p0 (U3 self_ p0 n) a0 a1 a2
def Yj (F:Nat) (self_:zA->Option (Int×Int)) (p0:zA):Option (Int×Int):=U3 self_ p0 F 0 0 0
def Ww:Nat->zA->Option (Int×Int)
  | 0,_=>none
  | F+1,p0=>Yj F (Ww F) p0
def Um (a0:Int) (a1:Int):Option (Int×Int×Int):=some (a0,a1,0)
def Ul (F:Nat) (p0:List zJ) (k2:Int->Int->Int->Option (Int×Int×Int)) (a1:Int) (a2:Int) (a3:Int):Option (Int×Int×Int):=bif (decide (a1<(p0.length:Int))) then ((getI p0 a1).bind λa4=>(Ww F a4.When).bind λa0=>(ck (a1+1)).bind λa5=>k2 a5 (if a0.1>a2 then a0.1 else a2) (if a0.2>a3 then a0.2 else a3)) else (Um a2 a3)
def S0 (F:Nat) (p0:List zJ):Nat->Int->Int->Int->Option (Int×Int×Int)
  | 0,_,_,_=>none
  | n+1,a0,a1,a2=>Ul F p0 (S0 F p0 n) a0 a1 a2
def Yh (F:Nat) (p0:List zJ):Option (Int×Int×Int):=(J5 F p0).bind λy5=>bif (y5 != 0) then (some (0,0,y5)) else (S0 F p0 F 0 0 0)
abbrev Dp:=zA->Option zA
abbrev Cz:=zA->Option zA
def Qw (a0:List zA):Option (List zA):=some a0
def Qv (s68_:Dp) (p0:zA) (k2:Int->List zA->Option (List zA)) (a0:Int) (a1:List zA):Option (List zA):=bif (decide (a0<(p0.Args.length:Int))) then ((getI p0.Args a0).bind λa3=>(s68_ a3).bind λa5=>(apd 56 a1 ([a5])).bind λa2=>(ck (a0+1)).bind λa4=>k2 a4 a2) else (Qw a1)
def Ms (s68_:Dp) (p0:zA):Nat->Int->List zA->Option (List zA)
  | 0,_,_=>none
  | n+1,a1,a0=>Qv s68_ p0 (Ms s68_ p0 n) a1 a0
def Qu (F:Nat) (s68_:Dp) (s102_:Cz) (p0:zA):Option (List zA):=Ms s68_ p0 F 0 ([])
def Vm (F:Nat) (s68_:Dp) (s102_:Cz) (p0:zA):Option zA:=bif (p0.Op==3) then ((getI p0.Args 0).bind λu8=>bif (decide (u8.Op<8)) then ((getI p0.Args 0).bind λa0=>(s102_ a0).bind λa1=>some a1) else ((Qu F s68_ s102_ p0).bind λa2=>some (zA.mk p0.Op p0.Value_ p0.Rays p0.Gates a2))) else ((Qu F s68_ s102_ p0).bind λa3=>some (zA.mk p0.Op p0.Value_ p0.Rays p0.Gates a3))
def Q4 (a0:List zA):Option (List zA):=some a0
def Q3 (s102_:Cz) (p0:zA) (k2:Int->List zA->Option (List zA)) (a0:Int) (a1:List zA):Option (List zA):=bif (decide (a0<(p0.Args.length:Int))) then ((getI p0.Args a0).bind λa3=>(s102_ a3).bind λa5=>(apd 56 a1 ([a5])).bind λa2=>(ck (a0+1)).bind λa4=>k2 a4 a2) else (Q4 a1)
def Ld (s102_:Cz) (p0:zA):Nat->Int->List zA->Option (List zA)
  | 0,_,_=>none
  | n+1,a1,a0=>Q3 s102_ p0 (Ld s102_ p0 n) a1 a0
def Sf (F:Nat) (s68_:Dp) (s102_:Cz) (p0:zA):Option (List zA):=Ld s102_ p0 F 0 ([])
def Tn (F:Nat) (s68_:Dp) (s102_:Cz) (p0:zA):Option zA:=bif (p0.Op==3) then ((getI p0.Args 0).bind λu7=>(s68_ u7).bind λa1=>some a1) else (bif (decide (p0.Op>=8)) then ((s68_ p0).bind λa2=>some (zA.mk 3 0 0 0 ([a2]))) else ((A3c (⟨[(0:Int),3,3,(0:Int),1,1,1,1],rfl⟩:So Int 8) p0.Op).bind λa0=>(Sf F s68_ s102_ (zA.mk (A56 .i64 p0.Op a0) p0.Value_ p0.Rays p0.Gates p0.Args)).bind λa3=>some (zA.mk (A56 .i64 p0.Op a0) p0.Value_ p0.Rays p0.Gates a3)))
def D0:Nat->Dp×Cz
  | 0=>(λ_=>none,λ_=>none)
  | F+1=>(Vm F (D0 F).1 (D0 F).2,Tn F (D0 F).1 (D0 F).2)
def A1u (F:Nat):Dp:=(D0 F).1
def Ui (a0:List zJ):Option ((List zJ)×Int):=some (a0,0)
def Uh (F:Nat) (p0:List zJ) (k2:Int->List zJ->Option ((List zJ)×Int)) (a0:Int) (a1:List zJ):Option ((List zJ)×Int):=bif (decide (a0<(p0.length:Int))) then ((getI p0 a0).bind λa2=>(A1u F a2.When).bind λa5=>(apd 72 a1 ([(zJ.mk a2.Name a5)])).bind λa3=>(ck (a0+1)).bind λa4=>k2 a4 a3) else (Ui a1)
def Ry (F:Nat) (p0:List zJ):Nat->Int->List zJ->Option ((List zJ)×Int)
  | 0,_,_=>none
  | n+1,a1,a0=>Uh F p0 (Ry F p0 n) a1 a0
def Yg (F:Nat) (p0:List zJ):Option ((List zJ)×Int):=(J5 F p0).bind λy5=>bif (y5 != 0) then (some (([]:(List zJ)),y5)) else (Ry F p0 F 0 ([]))
def Ap (p0:Int) (p1:Int) (p2:Int):Bool:=bif (decide (p1<=p0)) then (decide (p0<=p2)) else false
def Cn (c4:Bool):Option Int:=bif c4 then (some 3) else (some 0)
def D8 (p0:zP) (c3:Bool):Option Int:=bif c3 then (some 3) else (bif (!(Ap p0.Rose 1 90)) then (Cn (!(Ap p0.Rose 1 90))) else (bif (!(Ap p0.Gates 1 200)) then (Cn (!(Ap p0.Gates 1 200))) else (bif (!(Ap p0.Step 50 2000)) then (Cn (!(Ap p0.Step 50 2000))) else (Cn (!(Ap p0.Width 0 8))))))
def Cv (F:Nat) (p0:zP):Option Int:=(beam_Name F p0.Name).bind λy2=>bif (!y2) then (some 10) else (bif (!(Ap p0.X (-1048576) 1048576)) then (D8 p0 (!(Ap p0.X (-1048576) 1048576))) else (bif (!(Ap p0.Y (-1048576) 1048576)) then (D8 p0 (!(Ap p0.Y (-1048576) 1048576))) else (D8 p0 (!(Ap p0.Z 0 20000)))))
def B1 (p0:Int) (p1:Int) (p2:Int):Bool:=bif (decide (p1<=p0)) then (decide (p0<=p2)) else false
def Au (p0:zC) (p1:Int) (p2:Int):Bool:=bif (bif (decide (p1<=p0.Lo)) then (decide (p0.Lo<=p0.Hi)) else false) then (decide (p0.Hi<=p2)) else false
def Rb:Option Bool:=some true
def Eh (p0:List zC) (k2:Int->Option Bool) (a1:Int):Option Bool:=bif (decide (a1<(p0.length:Int))) then ((getI p0 a1).bind λa0=>(gd (((!(B1 a0.Lo (-32768) 32767))==false&&true)) (ck (a0.Lo+65536)) 0).bind λa2=>(gd (((!(B1 a0.Lo (-32768) 32767))==false&&true)) (ck (a2-1)) 0).bind λa3=>bif (bif (!(B1 a0.Lo (-32768) 32767)) then true else (!(B1 a0.Hi a0.Lo a3))) then (some false) else ((ck (a1+1)).bind λa4=>k2 a4)) else (Rb)
def Fu (p0:List zC):Nat->Int->Option Bool
  | 0,_=>none
  | n+1,a0=>Eh p0 (Fu p0 n) a0
def Rm (F:Nat) (p0:List zC):Option Bool:=Fu p0 F 0
def Dk (c7:Bool):Option Int:=bif (!c7) then (some 3) else (some 0)
def J0 (F:Nat) (p0:zD) (c9:Bool):Option Int:=bif c9 then (bif (p0.Kind==2) then (Dk (bif (bif (bif (bif (bif (bif (Au p0.Power 0 1073741824) then (decide (p0.Power.Lo>0)) else false) then (Au p0.Ratio 0 1000000) else false) then (Au p0.Match 0 1000) else false) then (B1 p0.Spread 0 65535) else false) then ((((p0.Steps.1.Lo:Int)==0)&&(((p0.Steps.1.Hi:Int)==0)&&true))&&((((p0.Steps.2.Lo:Int)==0)&&(((p0.Steps.2.Hi:Int)==0)&&true))&&true)) else false) then (((p0.Turn.Lo:Int)==0)&&(((p0.Turn.Hi:Int)==0)&&true)) else false)) else (bif (bif (bif (bif (bif (Au p0.Power 0 1073741824) then (decide (p0.Power.Lo>0)) else false) then (Au p0.Ratio 0 1000000) else false) then (Au p0.Match 0 1000) else false) then (B1 p0.Spread 0 65535) else false) then ((Rm F ([(zC.mk p0.Steps.1.Lo p0.Steps.1.Hi),(zC.mk p0.Steps.2.Lo p0.Steps.2.Hi),p0.Turn])).bind λa0=>Dk a0) else (Dk false))) else (some 2)
def Lr (F:Nat) (p0:zD):Option Int:=bif (p0.Kind==1) then (Dk (bif (Au p0.Power 0 1073741824) then (((p0.Kind:Int)==1)&&((((p0.Power.Lo:Int)==0)&&(((p0.Power.Hi:Int)==p0.Power.Hi)&&true))&&(((((p0.Steps.1.Lo:Int)==0)&&(((p0.Steps.1.Hi:Int)==0)&&true))&&((((p0.Steps.2.Lo:Int)==0)&&(((p0.Steps.2.Hi:Int)==0)&&true))&&true))&&(((p0.Spread:Int)==0)&&((((p0.Ratio.Lo:Int)==0)&&(((p0.Ratio.Hi:Int)==0)&&true))&&((((p0.Match.Lo:Int)==0)&&(((p0.Match.Hi:Int)==0)&&true))&&((((p0.Turn.Lo:Int)==0)&&(((p0.Turn.Hi:Int)==0)&&true))&&true))))))) else false)) else (bif (p0.Kind==2) then (J0 F p0 (p0.Kind==2)) else (J0 F p0 (p0.Kind==3)))
def Pc:Option Int:=some 0
def K2 (a0:Int) (k3:Int->Option Int):Option Int:=(ck (a0+1)).bind λa1=>k3 a1
def Dr (F:Nat) (a4:Int) (k3:Int->Option Int) (a2:List zD) (k5:Int->Option Int) (a1:Int):Option Int:=bif (decide (a1<(a2.length:Int))) then ((getI a2 a1).bind λa0=>(Lr F (zD.mk a0.Kind a0.Power ((zC.mk a0.Steps.1.Lo a0.Steps.1.Hi),(zC.mk a0.Steps.2.Lo a0.Steps.2.Hi)) a0.Spread a0.Ratio a0.Match a0.Turn)).bind λa3=>bif (a3 != 0) then (some a3) else ((ck (a1+1)).bind λa5=>k5 a5)) else (K2 a4 k3)
def Du (F:Nat) (a1:Int) (k3:Int->Option Int) (a0:List zD):Nat->Int->Option Int
  | 0,_=>none
  | n+1,a2=>Dr F a1 k3 a0 (Du F a1 k3 a0 n) a2
def Dq (F:Nat) (p0:zF) (k3:Int->Option Int) (a0:Int):Option Int:=bif (decide (a0<(p0.Rays.length:Int))) then ((getI p0.Rays a0).bind λa1=>Du F a0 k3 a1 F 0) else (Pc)
def D4 (F:Nat) (p0:zF):Nat->Int->Option Int
  | 0,_=>none
  | n+1,a0=>Dq F p0 (D4 F p0 n) a0
def K1 (F:Nat) (p0:zF):Option Int:=D4 F p0 F 0
def Dt (F:Nat) (p0:zF) (k6:Int->Option Int) (a0:Int):Option Int:=bif (decide (a0<(p0.Rays.length:Int))) then ((getI p0.Rays a0).bind λa1=>bif ((a1.length:Int) != p0.Site.Gates) then (some 11) else ((ck (a0+1)).bind λa2=>k6 a2)) else (K1 F p0)
def Dv (F:Nat) (p0:zF):Nat->Int->Option Int
  | 0,_=>none
  | n+1,a0=>Dt F p0 (Dv F p0 n) a0
def Dn (F:Nat) (p0:zF):Option Int:=(Cv F p0.Site).bind λy6=>bif (y6 != 0) then (some y6) else (bif (bif (!(B1 p0.Tilt 0 256)) then true else (!(B1 p0.Time 0 4294967296))) then (some 3) else ((ck (4*p0.Site.Rose)).bind λx7=>bif ((p0.Rays.length:Int) != x7) then (some 11) else (Dv F p0 F 0)))
def Qz (F:Nat) (p0:zF):Option zH:=(ck ((p0.Rays.length:Int)*p0.Site.Gates)).bind λx6=>some (zH.mk p0 x6 ([]:List (ByteArray×(List Int))) ([]:List (ByteArray×(List zE))))
def Sd (F:Nat) (p0:Option zH) (p1:zA):Option (List Int):=(p0).bind λd8=>(mkI 8 d8.n 0).bind λa0=>some a0
def Ft (F:Nat) (p0:Int) (c0_:zA):Option Int:=(getI ([0,1,3]) c0_.Op).bind λu6=>some u6
def Lf (a0:List Int):Option (List Int):=some a0
def Le (F:Nat) (c1_0_:zA) (k2:Int->Int->List Int->Option (List Int)) (a2:Int) (a0:Int) (a1:List Int):Option (List Int):=bif (decide (a0<a2)) then ((Ft F a0 c1_0_).bind λa5=>(getI a1 a0).bind λa6=>(L0 a1 a0 a5).bind λa3=>(ck (a0+1)).bind λa4=>k2 a2 a4 a3) else (Lf a1)
def F4 (F:Nat) (c1_0_:zA):Nat->Int->Int->List Int->Option (List Int)
  | 0,_,_,_=>none
  | n+1,a1,a2,a0=>Le F c1_0_ (F4 F c1_0_ n) a1 a2 a0
def K5 (F:Nat) (p0:Int) (c1_0_:zA):Option (List Int):=(mkI 8 p0 0).bind λl6=>F4 F c1_0_ F (l6.length:Int) 0 l6
def Fs (F:Nat) (p0:Option zH) (p1:zA):Option (List Int):=(p0).bind λd8=>(K5 F d8.n p1).bind λa0=>some a0
def He (F:Nat) (p0:Int) (c0_:List Int):Option Int:=(getI c0_ p0).bind λu4=>(ck (4-u4)).bind λx5=>some x5
def Gb (F:Nat) (p0:Int) (c0_:zA) (c1_:List Int) (c2_:List Int):Option Int:=bif (c0_.Op==4) then ((getI c1_ p0).bind λa0=>(getI c2_ p0).bind λa1=>some (if a1>a0 then a1 else a0)) else ((getI c1_ p0).bind λa2=>(getI c2_ p0).bind λa3=>some (if a3<a2 then a3 else a2))
def Ez {σ:Type} (a1:Int) (k2:Int->σ->Option (σ×Bool)) (a0:σ):Option (σ×Bool):=(ck (a1+1)).bind λa2=>k2 a2 a0
def Ex {σ:Type} (body:σ->Int->Option (σ×Bool)) (c1_:Int) (c3_:Int) (d3:zH) (a7:Int) (a3:Int) (k2:Int->σ->Option (σ×Bool)) (k4:Int->σ->Option (σ×Bool)) (a0:Int) (a2:σ):Option (σ×Bool):=(ck (d3.s.Site.Gates-1)).bind λa4=>(ck (a7+c3_)).bind λa5=>bif (decide (a0<=(if a5<a4 then a5 else a4))) then ((ck (a3+(d3.s.Rays.length:Int))).bind λa8=>(Wr a8 (d3.s.Rays.length:Int)).bind λa9=>(ck (a9*d3.s.Site.Gates)).bind λaA=>(ck (aA+a0)).bind λa6=>bif (a6 != c1_) then ((body a2 a6).bind λa1=>bif a1.2 then ((ck (a0+1)).bind λaB=>k4 aB a1.1) else (some (a1.1,false))) else ((ck (a0+1)).bind λaC=>k4 aC a2)) else (Ez a3 k2 a2)
def Dm {σ:Type} (body:σ->Int->Option (σ×Bool)) (c1_:Int) (c3_:Int) (d3:zH) (a0:Int) (a1:Int) (k2:Int->σ->Option (σ×Bool)):Nat->Int->σ->Option (σ×Bool)
  | 0,_,_=>none
  | n+1,a3,a2=>Ex body c1_ c3_ d3 a0 a1 k2 (Dm body c1_ c3_ d3 a0 a1 k2 n) a3 a2
def Ew {σ:Type} (F:Nat) (body:σ->Int->Option (σ×Bool)) (c1_:Int) (c3_:Int) (d3:zH) (a1:Int) (a4:Int) (k2:Int->σ->Option (σ×Bool)) (a2:Int) (a0:σ):Option (σ×Bool):=bif (decide (a2<=a4)) then ((ck (a1-c3_)).bind λa3=>Dm body c1_ c3_ d3 a1 a2 k2 F (if a3>0 then a3 else 0) a0) else (some (a0,true))
def Cs {σ:Type} (F:Nat) (body:σ->Int->Option (σ×Bool)) (c1_:Int) (c3_:Int) (d3:zH) (a0:Int) (a1:Int):Nat->Int->σ->Option (σ×Bool)
  | 0,_,_=>none
  | n+1,a3,a2=>Ew F body c1_ c3_ d3 a0 a1 (Cs F body c1_ c3_ d3 a0 a1 n) a3 a2
def Ey {σ:Type} (F:Nat) (body:σ->Int->Option (σ×Bool)) (s_:σ) (c1_:Int) (c3_:Int) (d3:zH) (a0:Int) (a1:Int) (a2:Int):Option (σ×Bool):=Cs F body c1_ c3_ d3 a0 a2 F a1 s_
def Ff {σ:Type} (F:Nat) (c0_:Option zH) (c1_:Int) (c2_:Int) (c3_:Int) (body:σ->Int->Option (σ×Bool)) (s_:σ):Option (σ×Bool):=(c0_).bind λd3=>(A26 c1_ d3.s.Site.Gates).bind λa0=>(Wr c1_ d3.s.Site.Gates).bind λa1=>(ck (a0-c2_)).bind λa2=>(ck (a0+c2_)).bind λa3=>(ck (a3-a2)).bind λa4=>bif (decide (a4>=(d3.s.Rays.length:Int))) then ((ck ((d3.s.Rays.length:Int)-1)).bind λa5=>Ey F body s_ c1_ c3_ d3 a1 0 a5) else (Ey F body s_ c1_ c3_ d3 a1 a2 a3)
def Tz (p0:Option zH) (p1:Int) (p2:Int) (p3:Int):Unit:=()
def Jg (c0_:zA) (c2_:List Int) (s_r:Int×Nat) (x_:Int):Option ((Int×Nat)×Bool):=bif (c0_.Op==6) then ((getI c2_ x_).bind λa0=>some ((if a0<s_r.1 then a0 else s_r.1,0),true)) else ((getI c2_ x_).bind λa1=>some ((if a1>s_r.1 then a1 else s_r.1,0),true))
def N5 (tg_:Nat):Code:=.ret
def Eg (F:Nat) (p0:Int) (c0_:zA) (c1_:Option zH) (c2_:List Int) (a1:Int):Option Int:=(Ff F c1_ p0 c0_.Rays c0_.Gates (Jg c0_ c2_) (a1,0)).bind λa0=>bif a0.2 then (some a0.1.1) else (none)
def Gc (F:Nat) (p0:Int) (c0_:zA) (c1_:Option zH) (c2_:List Int):Option Int:=bif (c0_.Op==7) then (Eg F p0 c0_ c1_ c2_ 1) else (Eg F p0 c0_ c1_ c2_ 3)
def Ab (p0:Int):zE:=(zE.mk (zC.mk p0 p0) true)
def Fq (F:Nat) (p0:Int) (c0_:Option zH) (c1_:zA):Option zE:=(c0_).bind λd8=>(A26 p0 d8.s.Site.Gates).bind λa2=>(getI d8.s.Rays a2).bind λa1=>(Wr p0 d8.s.Site.Gates).bind λa3=>(getI a1 a3).bind λa0=>bif (c1_.Op==14) then (some (Ab c1_.Value_)) else (bif (c1_.Op==21) then (some (Ab a0.Kind)) else (bif (c1_.Op==22) then ((A26 p0 d8.s.Site.Gates).bind λa4=>some (Ab a4)) else (bif (c1_.Op==23) then ((Wr p0 d8.s.Site.Gates).bind λa5=>some (Ab a5)) else (bif (c1_.Op==24) then (some (Ab d8.s.Tilt)) else (bif (c1_.Op==15) then (some (zE.mk a0.Power true)) else (bif (a0.Kind==1) then (some (zE.mk (zC.mk 0 0) false)) else (bif (c1_.Op==16) then (some (zE.mk a0.Ratio true)) else (bif (c1_.Op==17) then (some (zE.mk a0.Match true)) else (bif (c1_.Op==18) then (some (Ab a0.Spread)) else (bif (a0.Kind==2) then (some (zE.mk (zC.mk 0 0) false)) else (bif (c1_.Op==19) then (some (zE.mk a0.Turn true)) else (some (zE.mk (zC.mk a0.Steps.1.Lo a0.Steps.1.Hi) true)))))))))))))
def Gz (a0:List zE):Option (List zE):=some a0
def Gy (F:Nat) (c1_0_:Option zH) (c1_1_:zA) (k2:Int->Int->List zE->Option (List zE)) (a2:Int) (a0:Int) (a1:List zE):Option (List zE):=bif (decide (a0<a2)) then ((Fq F a0 c1_0_ c1_1_).bind λa5=>(getI a1 a0).bind λa6=>(L0 a1 a0 a5).bind λa3=>(ck (a0+1)).bind λa4=>k2 a2 a4 a3) else (Gz a1)
def Dd (F:Nat) (c1_0_:Option zH) (c1_1_:zA):Nat->Int->Int->List zE->Option (List zE)
  | 0,_,_,_=>none
  | n+1,a1,a2,a0=>Gy F c1_0_ c1_1_ (Dd F c1_0_ c1_1_ n) a1 a2 a0
def Fy (F:Nat) (p0:Int) (c1_0_:Option zH) (c1_1_:zA):Option (List zE):=(mkI 24 p0 (zE.mk (zC.mk 0 0) false)).bind λl8=>Dd F c1_0_ c1_1_ F (l8.length:Int) 0 l8
def Fp (F:Nat) (p0:Option zH) (p1:zA):Option (List zE):=(p0).bind λd9=>(Fy F d9.n (some (zH.mk d9.s d9.n ([]:(List (ByteArray×(List Int)))) ([]:(List (ByteArray×(List zE)))))) p1).bind λa0=>some a0
def E5 (c2_:List Int) (s_r:Int×Int×Nat) (x_:Int) (a0:Int):Option ((Int×Int×Nat)×Bool):=(getI c2_ x_).bind λa1=>bif (a1 != 3) then ((ck (s_r.2.1+1)).bind λa2=>some ((a0,a2,0),true)) else (some ((a0,s_r.2.1,0),true))
def J9 (c2_:List Int) (s_r:Int×Int×Nat) (x_:Int):Option ((Int×Int×Nat)×Bool):=(getI c2_ x_).bind λa0=>bif (a0==1) then ((ck (s_r.1+1)).bind λa1=>E5 c2_ s_r x_ a1) else (E5 c2_ s_r x_ s_r.1)
def Mh (tg_:Nat):Code:=.ret
def Fo (F:Nat) (p0:Int) (c0_:Option zH) (c1_:zA) (c2_:List Int):Option zE:=(Ff F c0_ p0 c1_.Rays c1_.Gates (J9 c2_) (0,0,0)).bind λa0=>bif a0.2 then (some (zE.mk (zC.mk a0.1.1 a0.1.2.1) true)) else (none)
def Gs (a0:zE) (a1:Int) (a2:Int):Option zE:=(ck (a0.span.Lo+a1)).bind λa3=>(ck (a0.span.Hi+a2)).bind λa4=>some (zE.mk (zC.mk a3 a4) true)
def Hf (F:Nat) (p0:Int) (c0_:List zE) (c1_:List zE) (c2_:zA):Option zE:=(getI c0_ p0).bind λa1=>(gd (((!a1.has)==false&&true)) (getI c1_ p0) default).bind λa3=>bif (bif (!a1.has) then true else (!a3.has)) then (some (zE.mk (zC.mk 0 0) false)) else ((getI c0_ p0).bind λa2=>(getI c1_ p0).bind λa0=>bif (c2_.Op==27) then (Gs a2 (IntKind.i64.wrap (0-a0.span.Hi)) (IntKind.i64.wrap (0-a0.span.Lo))) else (Gs a2 a0.span.Lo a0.span.Hi))
def Bw (a0:Bool) (a1:Bool):Option Int:=bif a0 then (some 1) else (bif a1 then (some 2) else (some 3))
def Ef (c2_:zA) (a0:Int) (a1:Int) (a2:Int) (a3:Int) (a4:Bool):Option Int:=bif a4 then (Bw (decide (a1<=a2)) (decide (a0<=a3))) else (bif (c2_.Op==12) then (Bw ((if a3>a1 then a3 else a1)==(if a2<a0 then a2 else a0)) (bif (decide (a0<=a3)) then (decide (a2<=a1)) else false)) else (bif (c2_.Op==13) then (Bw (bif (decide (a1<a2)) then true else (decide (a3<a0))) ((if a3>a1 then a3 else a1) != (if a2<a0 then a2 else a0))) else (Bw false false)))
def Ee (c2_:zA) (a0:Int) (a1:Int) (a2:Int) (a3:Int) (a4:Bool):Option Int:=bif a4 then (Bw (decide (a1<a2)) (decide (a0<a3))) else (bif (c2_.Op==9) then (Ef c2_ a0 a1 a2 a3 (c2_.Op==9)) else (Ef c2_ a0 a1 a2 a3 (c2_.Op==11)))
def Dg (c2_:zA) (a0:Int) (a1:Int) (a2:Int) (a3:Int):Option Int:=bif (c2_.Op==8) then (Ee c2_ a0 a1 a2 a3 (c2_.Op==8)) else (Ee c2_ a0 a1 a2 a3 (c2_.Op==10))
def Ed (F:Nat) (p0:Int) (c0_:List zE) (c1_:List zE) (c2_:zA):Option Int:=(getI c0_ p0).bind λa2=>(gd (((!a2.has)==false&&true)) (getI c1_ p0) default).bind λa3=>bif (bif (!a2.has) then true else (!a3.has)) then (some 3) else ((getI c0_ p0).bind λa0=>(getI c1_ p0).bind λa1=>bif (bif (c2_.Op==10) then true else (c2_.Op==11)) then (Dg c2_ a1.span.Lo a1.span.Hi a0.span.Lo a0.span.Hi) else (Dg c2_ a0.span.Lo a0.span.Hi a1.span.Lo a1.span.Hi))
abbrev Am:=zH->zA->Option ((List Int)×zH)
abbrev Ak:=zH->zA->Option ((List zE)×zH)
def Lh (a0:List Int):Option (List Int):=some a0
def Lg (F:Nat) (c1_0_:List Int) (k2:Int->Int->List Int->Option (List Int)) (a2:Int) (a0:Int) (a1:List Int):Option (List Int):=bif (decide (a0<a2)) then ((He F a0 c1_0_).bind λa5=>(getI a1 a0).bind λa6=>(L0 a1 a0 a5).bind λa3=>(ck (a0+1)).bind λa4=>k2 a2 a4 a3) else (Lh a1)
def F5 (F:Nat) (c1_0_:List Int):Nat->Int->Int->List Int->Option (List Int)
  | 0,_,_,_=>none
  | n+1,a1,a2,a0=>Lg F c1_0_ (F5 F c1_0_ n) a1 a2 a0
def K6 (F:Nat) (s76_:Am) (s84_:Ak) (p0:Int) (c1_0_:List Int):Option (List Int):=(mkI 8 p0 0).bind λl5=>F5 F c1_0_ F (l5.length:Int) 0 l5
def Kf (F:Nat) (s76_:Am) (s84_:Ak) (p0:zH) (p1:zA):Option ((List Int)×zH):=(getI p1.Args 0).bind λa1=>(s76_ p0 a1).bind λa0=>(K6 F s76_ s84_ p0.n a0.1).bind λa2=>some (a2,(zH.mk p0.s p0.n a0.2.tests a0.2.values))
def Lj (a0:List Int):Option (List Int):=some a0
def Li (F:Nat) (c1_0_:zA) (c1_1_:List Int) (c1_2_:List Int) (k2:Int->Int->List Int->Option (List Int)) (a2:Int) (a0:Int) (a1:List Int):Option (List Int):=bif (decide (a0<a2)) then ((Gb F a0 c1_0_ c1_1_ c1_2_).bind λa5=>(getI a1 a0).bind λa6=>(L0 a1 a0 a5).bind λa3=>(ck (a0+1)).bind λa4=>k2 a2 a4 a3) else (Lj a1)
def F6 (F:Nat) (c1_0_:zA) (c1_1_:List Int) (c1_2_:List Int):Nat->Int->Int->List Int->Option (List Int)
  | 0,_,_,_=>none
  | n+1,a1,a2,a0=>Li F c1_0_ c1_1_ c1_2_ (F6 F c1_0_ c1_1_ c1_2_ n) a1 a2 a0
def K7 (F:Nat) (s76_:Am) (s84_:Ak) (p0:Int) (c1_0_:zA) (c1_1_:List Int) (c1_2_:List Int):Option (List Int):=(mkI 8 p0 0).bind λa0=>F6 F c1_0_ c1_1_ c1_2_ F (a0.length:Int) 0 a0
def Gg (F:Nat) (s76_:Am) (s84_:Ak) (p0:zH) (p1:zA):Option ((List Int)×zH):=(getI p1.Args 0).bind λa2=>(getI p1.Args 1).bind λa3=>(s76_ p0 a2).bind λa0=>(s76_ (zH.mk p0.s p0.n a0.2.tests a0.2.values) a3).bind λa1=>(K7 F s76_ s84_ p0.n p1 a0.1 a1.1).bind λa4=>some (a4,(zH.mk p0.s p0.n a1.2.tests a1.2.values))
def Ll (a0:List Int):Option (List Int):=some a0
def Lk (F:Nat) (c1_0_:zA) (c1_1_:Option zH) (c1_2_:List Int) (k2:Int->Int->List Int->Option (List Int)) (a2:Int) (a0:Int) (a1:List Int):Option (List Int):=bif (decide (a0<a2)) then ((Gc F a0 c1_0_ c1_1_ c1_2_).bind λa5=>(getI a1 a0).bind λa6=>(L0 a1 a0 a5).bind λa3=>(ck (a0+1)).bind λa4=>k2 a2 a4 a3) else (Ll a1)
def F7 (F:Nat) (c1_0_:zA) (c1_1_:Option zH) (c1_2_:List Int):Nat->Int->Int->List Int->Option (List Int)
  | 0,_,_,_=>none
  | n+1,a1,a2,a0=>Lk F c1_0_ c1_1_ c1_2_ (F7 F c1_0_ c1_1_ c1_2_ n) a1 a2 a0
def K8 (F:Nat) (s76_:Am) (s84_:Ak) (p0:Int) (c1_0_:zA) (c1_1_:Option zH) (c1_2_:List Int):Option (List Int):=(mkI 8 p0 0).bind λa0=>F7 F c1_0_ c1_1_ c1_2_ F (a0.length:Int) 0 a0
def Gh (F:Nat) (s76_:Am) (s84_:Ak) (p0:zH) (p1:zA):Option ((List Int)×zH):=(getI p1.Args 0).bind λa1=>(s76_ p0 a1).bind λa0=>(K8 F s76_ s84_ p0.n p1 (some (zH.mk p0.s p0.n a0.2.tests a0.2.values)) a0.1).bind λa2=>some (a2,(zH.mk p0.s p0.n a0.2.tests a0.2.values))
def Ln (a0:List Int):Option (List Int):=some a0
def Lm (F:Nat) (c1_0_:List zE) (c1_1_:List zE) (c1_2_:zA) (k2:Int->Int->List Int->Option (List Int)) (a2:Int) (a0:Int) (a1:List Int):Option (List Int):=bif (decide (a0<a2)) then ((Ed F a0 c1_0_ c1_1_ c1_2_).bind λa5=>(getI a1 a0).bind λa6=>(L0 a1 a0 a5).bind λa3=>(ck (a0+1)).bind λa4=>k2 a2 a4 a3) else (Ln a1)
def F8 (F:Nat) (c1_0_:List zE) (c1_1_:List zE) (c1_2_:zA):Nat->Int->Int->List Int->Option (List Int)
  | 0,_,_,_=>none
  | n+1,a1,a2,a0=>Lm F c1_0_ c1_1_ c1_2_ (F8 F c1_0_ c1_1_ c1_2_ n) a1 a2 a0
def K9 (F:Nat) (s76_:Am) (s84_:Ak) (p0:Int) (c1_0_:List zE) (c1_1_:List zE) (c1_2_:zA):Option (List Int):=(mkI 8 p0 0).bind λa0=>F8 F c1_0_ c1_1_ c1_2_ F (a0.length:Int) 0 a0
def C6 (F:Nat) (s76_:Am) (s84_:Ak) (p0:zH) (p1:zA):Option ((List Int)×zH):=(getI p1.Args 0).bind λa2=>(getI p1.Args 1).bind λa3=>(s84_ p0 a2).bind λa0=>(s84_ (zH.mk p0.s p0.n a0.2.tests a0.2.values) a3).bind λa1=>(K9 F s76_ s84_ p0.n a0.1 a1.1 p1).bind λa4=>some (a4,(zH.mk p0.s p0.n a1.2.tests a1.2.values))
def H3 (a0:List zE):Option (List zE):=some a0
def H0 (F:Nat) (c1_0_:Option zH) (c1_1_:zA) (c1_2_:List Int) (k2:Int->Int->List zE->Option (List zE)) (a2:Int) (a0:Int) (a1:List zE):Option (List zE):=bif (decide (a0<a2)) then ((Fo F a0 c1_0_ c1_1_ c1_2_).bind λa5=>(getI a1 a0).bind λa6=>(L0 a1 a0 a5).bind λa3=>(ck (a0+1)).bind λa4=>k2 a2 a4 a3) else (H3 a1)
def De (F:Nat) (c1_0_:Option zH) (c1_1_:zA) (c1_2_:List Int):Nat->Int->Int->List zE->Option (List zE)
  | 0,_,_,_=>none
  | n+1,a1,a2,a0=>H0 F c1_0_ c1_1_ c1_2_ (De F c1_0_ c1_1_ c1_2_ n) a1 a2 a0
def Fz (F:Nat) (s76_:Am) (s84_:Ak) (p0:Int) (c1_0_:Option zH) (c1_1_:zA) (c1_2_:List Int):Option (List zE):=(mkI 24 p0 (zE.mk (zC.mk 0 0) false)).bind λa0=>De F c1_0_ c1_1_ c1_2_ F (a0.length:Int) 0 a0
def Hc (F:Nat) (s76_:Am) (s84_:Ak) (p0:zH) (p1:zA):Option ((List zE)×zH):=(getI p1.Args 0).bind λa1=>(s76_ p0 a1).bind λa0=>(Fz F s76_ s84_ p0.n (some (zH.mk p0.s p0.n a0.2.tests a0.2.values)) p1 a0.1).bind λa2=>some (a2,(zH.mk p0.s p0.n a0.2.tests a0.2.values))
def H5 (a0:List zE):Option (List zE):=some a0
def H4 (F:Nat) (c1_0_:List zE) (c1_1_:List zE) (c1_2_:zA) (k2:Int->Int->List zE->Option (List zE)) (a2:Int) (a0:Int) (a1:List zE):Option (List zE):=bif (decide (a0<a2)) then ((Hf F a0 c1_0_ c1_1_ c1_2_).bind λa5=>(getI a1 a0).bind λa6=>(L0 a1 a0 a5).bind λa3=>(ck (a0+1)).bind λa4=>k2 a2 a4 a3) else (H5 a1)
def Df (F:Nat) (c1_0_:List zE) (c1_1_:List zE) (c1_2_:zA):Nat->Int->Int->List zE->Option (List zE)
  | 0,_,_,_=>none
  | n+1,a1,a2,a0=>H4 F c1_0_ c1_1_ c1_2_ (Df F c1_0_ c1_1_ c1_2_ n) a1 a2 a0
def G0 (F:Nat) (s76_:Am) (s84_:Ak) (p0:Int) (c1_0_:List zE) (c1_1_:List zE) (c1_2_:zA):Option (List zE):=(mkI 24 p0 (zE.mk (zC.mk 0 0) false)).bind λa0=>Df F c1_0_ c1_1_ c1_2_ F (a0.length:Int) 0 a0
def Hw (F:Nat) (s76_:Am) (s84_:Ak) (p0:zH) (p1:zA):Option ((List zE)×zH):=(getI p1.Args 0).bind λa2=>(getI p1.Args 1).bind λa3=>(s84_ p0 a2).bind λa0=>(s84_ (zH.mk p0.s p0.n a0.2.tests a0.2.values) a3).bind λa1=>(G0 F s76_ s84_ p0.n a0.1 a1.1 p1).bind λa4=>some (a4,(zH.mk p0.s p0.n a1.2.tests a1.2.values))
def Bf (F:Nat) (s76_:Am) (s84_:Ak) (p0:zH) (p1:zA):Option ((List Int)×zH):=(Di F p1).bind λa0=>bif ((lkM p0.tests a0).isSome) then (some (((lkM p0.tests a0).getD []),p0)) else (bif (p1.Op==0) then ((Sd F (some p0) p1).bind λaC=>some (aC,(zH.mk p0.s p0.n (upM p0.tests a0 aC) p0.values))) else (bif (p1.Op==1) then ((Fs F (some p0) p1).bind λaD=>some (aD,(zH.mk p0.s p0.n (upM p0.tests a0 aD) p0.values))) else (bif (p1.Op==2) then ((Fs F (some p0) p1).bind λaE=>some (aE,(zH.mk p0.s p0.n (upM p0.tests a0 aE) p0.values))) else (bif (p1.Op==3) then ((Kf F s76_ s84_ p0 p1).bind λa8=>some (a8.1,(zH.mk p0.s p0.n (upM a8.2.tests a0 a8.1) a8.2.values))) else (bif (p1.Op==4) then ((Gg F s76_ s84_ p0 p1).bind λa9=>some (a9.1,(zH.mk p0.s p0.n (upM a9.2.tests a0 a9.1) a9.2.values))) else (bif (p1.Op==5) then ((Gg F s76_ s84_ p0 p1).bind λaA=>some (aA.1,(zH.mk p0.s p0.n (upM aA.2.tests a0 aA.1) aA.2.values))) else (bif (p1.Op==6) then ((Gh F s76_ s84_ p0 p1).bind λaB=>some (aB.1,(zH.mk p0.s p0.n (upM aB.2.tests a0 aB.1) aB.2.values))) else (bif (p1.Op==7) then ((Gh F s76_ s84_ p0 p1).bind λa1=>some (a1.1,(zH.mk p0.s p0.n (upM a1.2.tests a0 a1.1) a1.2.values))) else (bif (p1.Op==8) then ((C6 F s76_ s84_ p0 p1).bind λa2=>some (a2.1,(zH.mk p0.s p0.n (upM a2.2.tests a0 a2.1) a2.2.values))) else (bif (p1.Op==9) then ((C6 F s76_ s84_ p0 p1).bind λa3=>some (a3.1,(zH.mk p0.s p0.n (upM a3.2.tests a0 a3.1) a3.2.values))) else (bif (p1.Op==10) then ((C6 F s76_ s84_ p0 p1).bind λa4=>some (a4.1,(zH.mk p0.s p0.n (upM a4.2.tests a0 a4.1) a4.2.values))) else (bif (p1.Op==11) then ((C6 F s76_ s84_ p0 p1).bind λa5=>some (a5.1,(zH.mk p0.s p0.n (upM a5.2.tests a0 a5.1) a5.2.values))) else (bif (p1.Op==12) then ((C6 F s76_ s84_ p0 p1).bind λa6=>some (a6.1,(zH.mk p0.s p0.n (upM a6.2.tests a0 a6.1) a6.2.values))) else (bif (p1.Op==13) then ((C6 F s76_ s84_ p0 p1).bind λa7=>some (a7.1,(zH.mk p0.s p0.n (upM a7.2.tests a0 a7.1) a7.2.values))) else (none)))))))))))))))
def By (F:Nat) (s76_:Am) (s84_:Ak) (p0:zH) (p1:zA):Option ((List zE)×zH):=(Di F p1).bind λa0=>bif ((lkM p0.values a0).isSome) then (some (((lkM p0.values a0).getD []),p0)) else (bif (p1.Op==25) then ((Hc F s76_ s84_ p0 p1).bind λa1=>some (a1.1,(zH.mk p0.s p0.n a1.2.tests (upM a1.2.values a0 a1.1)))) else (bif (p1.Op==26) then (bif (p1.Op==26) then ((Hw F s76_ s84_ p0 p1).bind λa2=>some (a2.1,(zH.mk p0.s p0.n a2.2.tests (upM a2.2.values a0 a2.1)))) else ((Fp F (some p0) p1).bind λa4=>some (a4,(zH.mk p0.s p0.n p0.tests (upM p0.values a0 a4))))) else (bif (p1.Op==27) then ((Hw F s76_ s84_ p0 p1).bind λa3=>some (a3.1,(zH.mk p0.s p0.n a3.2.tests (upM a3.2.values a0 a3.1)))) else ((Fp F (some p0) p1).bind λa5=>some (a5,(zH.mk p0.s p0.n p0.tests (upM p0.values a0 a5)))))))
def Bo:Nat->Am×Ak
  | 0=>(λ_ _=>none,λ_ _=>none)
  | F+1=>(Bf F (Bo F).1 (Bo F).2,By F (Bo F).1 (Bo F).2)
def Fi (F:Nat):Am:=(Bo F).1
def P1 (F:Nat):Ak:=(Bo F).2
def Uf (a0:List (List zL)):Option ((List (List zL))×Int):=some (a0,0)
def Rw (a1:Int) (k3:List (List zL)->Int->Option ((List (List zL))×Int)) (a0:List (List zL)):Option ((List (List zL))×Int):=(ck (a1+1)).bind λa2=>k3 a0 a2
def Rx (a1:Int) (k5:List (List zL)->Int->Option ((List (List zL))×Int)) (a0:List (List zL)):Option ((List (List zL))×Int):=(ck (a1+1)).bind λa2=>k5 a0 a2
def Md (a1:Int) (a0:List (List zL)) (a6:Int) (k5:List (List zL)->Int->Option ((List (List zL))×Int)) (a7:Int) (a2:List Int):Option ((List (List zL))×Int):=(getI a0 a1).bind λa5=>(apd 32 a5 ([(zL.mk a7 a2)])).bind λa3=>(getI a0 a1).bind λa8=>(L0 a0 a1 a3).bind λa4=>Rx a6 k5 a4
def Pu (a1:Int) (k8:List Int->Int->Option ((List (List zL))×Int)) (a0:List Int):Option ((List (List zL))×Int):=(ck (a1+1)).bind λa2=>k8 a0 a2
def Ps (a4:List (List Int)) (a2:Int) (a8:List zD) (a5:List (List zL)) (a3:Int) (k5:List (List zL)->Int->Option ((List (List zL))×Int)) (k8:List Int->Int->Option ((List (List zL))×Int)) (a1:List Int) (a0:Int):Option ((List (List zL))×Int):=bif (decide (a0<(a4.length:Int))) then ((getI a4 a0).bind λa9=>(ck (a2*(a8.length:Int))).bind λaA=>(ck (aA+a3)).bind λaB=>(getI a9 aB).bind λa6=>bif (a6==1) then (Md a2 a5 a3 k5 a0 a1) else (bif (a6==2) then ((apd 8 a1 ([a0])).bind λa7=>Pu a0 k8 a7) else (Pu a0 k8 a1))) else (Md a2 a5 a3 k5 (-1) a1)
def Me (a0:List (List Int)) (a3:Int) (a2:List zD) (a1:List (List zL)) (a4:Int) (k5:List (List zL)->Int->Option ((List (List zL))×Int)):Nat->List Int->Int->Option ((List (List zL))×Int)
  | 0,_,_=>none
  | n+1,a5,a6=>Ps a0 a3 a2 a1 a4 k5 (Me a0 a3 a2 a1 a4 k5 n) a5 a6
def Pr (F:Nat) (a4:List (List Int)) (a2:Int) (k3:List (List zL)->Int->Option ((List (List zL))×Int)) (a1:List zD) (k5:List (List zL)->Int->Option ((List (List zL))×Int)) (a0:List (List zL)) (a3:Int):Option ((List (List zL))×Int):=bif (decide (a3<(a1.length:Int))) then (Me a4 a2 a1 a0 a3 k5 F ([]) 0) else (Rw a2 k3 a0)
def Ju (F:Nat) (a0:List (List Int)) (a2:Int) (k3:List (List zL)->Int->Option ((List (List zL))×Int)) (a1:List zD):Nat->List (List zL)->Int->Option ((List (List zL))×Int)
  | 0,_,_=>none
  | n+1,a3,a4=>Pr F a0 a2 k3 a1 (Ju F a0 a2 k3 a1 n) a3 a4
def Pq (F:Nat) (p1:zF) (a2:List (List Int)) (k3:List (List zL)->Int->Option ((List (List zL))×Int)) (a1:List (List zL)) (a0:Int):Option ((List (List zL))×Int):=bif (decide (a0<(p1.Rays.length:Int))) then ((getI p1.Rays a0).bind λa3=>Ju F a2 a0 k3 a3 F a1 0) else (Uf a1)
def Jt (F:Nat) (p1:zF) (a0:List (List Int)):Nat->List (List zL)->Int->Option ((List (List zL))×Int)
  | 0,_,_=>none
  | n+1,a1,a2=>Pq F p1 a0 (Jt F p1 a0 n) a1 a2
def Pt (F:Nat) (p1:zF) (a2:List (ByteArray×(List Int))) (a3:List (ByteArray×(List zE))) (a0:List (List Int)):Option ((List (List zL))×Int):=(mkI 24 (p1.Rays.length:Int) ([]:(List zL))).bind λa1=>Jt F p1 a0 F a1 0
def Nn (F:Nat) (p0:List zJ) (p1:zF) (a5:zH) (a6:List (ByteArray×(List Int))->List (ByteArray×(List zE))->Int->List (List Int)->Option ((List (List zL))×Int)) (a2:List (ByteArray×(List Int))) (a3:List (ByteArray×(List zE))) (a0:Int) (a4:List (List Int)):Option ((List (List zL))×Int):=bif (decide (a0<(p0.length:Int))) then ((getI p0 a0).bind λa8=>(Fi F (zH.mk a5.s a5.n a2 a3) a8.When).bind λa1=>(apd 24 a4 ([a1.1])).bind λa7=>(ck (a0+1)).bind λa9=>a6 a1.2.tests a1.2.values a9 a7) else (Pt F p1 a2 a3 a4)
def No (F:Nat) (p0:List zJ) (p1:zF) (a0:zH):Nat->List (ByteArray×(List Int))->List (ByteArray×(List zE))->Int->List (List Int)->Option ((List (List zL))×Int)
  | 0,_,_,_,_=>none
  | n+1,a1,a2,a4,a3=>Nn F p0 p1 a0 (No F p0 p1 a0 n) a1 a2 a4 a3
def J6 (F:Nat) (p0:List zJ) (p1:zF):Option ((List (List zL))×Int):=(J5 F p0).bind λa1=>bif (a1 != 0) then (some (([]:(List (List zL))),a1)) else ((Dn F p1).bind λa2=>bif (a2 != 0) then (some (([]:(List (List zL))),a2)) else ((Qz F p1).bind λa0=>No F p0 p1 a0 F a0.tests a0.values 0 ([])))
def Vo (p0:ByteArray):Option ByteArray:=some p0
def Vn (p0:ByteArray) (p1:ByteArray) (k2:Int->Option ByteArray) (a0:Int):Option ByteArray:=bif (decide (a0<((p0.size:Nat):Int))) then ((Ts p0 a0).bind λa2=>bif (decide ((C4 p1 a2)<0)) then ((Mu p0 0 a0).bind λa1=>some a1) else ((ck (a0+1)).bind λa3=>k2 a3)) else (Vo p0)
def T1 (p0:ByteArray) (p1:ByteArray):Nat->Int->Option ByteArray
  | 0,_=>none
  | n+1,a0=>Vn p0 p1 (T1 p0 p1 n) a0
def Ku (F:Nat) (p0:ByteArray) (p1:ByteArray):Option ByteArray:=T1 p0 p1 F 0
def N4 (F:Nat) (p0:zB) (k1:Int->Option zB) (a3:Int):Option zB:=(Mu p0.s a3 ((p0.s.size:Nat):Int)).bind λa4=>(Ku F a4 (⟨#[32,9,10,13]⟩:ByteArray)).bind λa8=>(ck (a3+((a8.size:Nat):Int))).bind λa0=>bif (a0==((p0.s.size:Nat):Int)) then (bif (bif (a0==((p0.s.size:Nat):Int)) then true else (0 != 35)) then (some (zB.mk p0.s a0 p0.token p0.from_)) else ((Mu p0.s a0 ((p0.s.size:Nat):Int)).bind λa1=>bif (decide ((C4 a1 10)>=0)) then ((ck (a0+(C4 a1 10))).bind λa6=>k1 a6) else (k1 ((p0.s.size:Nat):Int)))) else ((Ts p0.s a0).bind λa5=>bif (bif (a0==((p0.s.size:Nat):Int)) then true else (a5 != 35)) then (some (zB.mk p0.s a0 p0.token p0.from_)) else ((Mu p0.s a0 ((p0.s.size:Nat):Int)).bind λa2=>bif (decide ((C4 a2 10)>=0)) then ((ck (a0+(C4 a2 10))).bind λa7=>k1 a7) else (k1 ((p0.s.size:Nat):Int))))
def Jf (F:Nat) (p0:zB):Nat->Int->Option zB
  | 0,_=>none
  | n+1,a0=>N4 F p0 (Jf F p0 n) a0
def Ml (F:Nat) (p0:zB):Option zB:=Jf F p0 F p0.at_
def Fl (F:Nat) (p0:ByteArray) (p1:ByteArray):Option Bool:=bif (decide (((p0.size:Nat):Int)>=((p1.size:Nat):Int))) then ((Mu p0 0 ((p1.size:Nat):Int)).bind λs2=>some (sEq s2 p1)) else (some false)
def Bt (F:Nat) (p0:ByteArray) (p1:ByteArray):Option Bool:=(Fl F p0 p1).bind λy1=>some y1
def Av (y4:zB) (a0:ByteArray):Option zB:=(ck (y4.at_+((a0.size:Nat):Int))).bind λa1=>some (zB.mk y4.s a1 a0 y4.at_)
def Ca (a0:zB) (a1:ByteArray):Option zB:=(ck (a0.at_+((a1.size:Nat):Int))).bind λa2=>some (zB.mk a0.s a2 a1 a0.at_)
def Bm (F:Nat) (p0:zB):Option zB:=bif (!(sEq p0.token (⟨#[]⟩:ByteArray))) then ((Mu p0.token 0 1).bind λs2=>(Bb F (⟨#[48,49,50,51,52,53,54,55,56,57]⟩:ByteArray) s2).bind λy3=>(Ml F p0).bind λy4=>(Mu y4.s y4.at_ ((y4.s.size:Nat):Int)).bind λs8=>bif (sEq s8 (⟨#[]⟩:ByteArray)) then (Av y4 (⟨#[]⟩:ByteArray)) else (bif y3 then (bif (y4.at_==p0.at_) then ((Mu s8 0 1).bind λaI=>(Bb F (⟨#[97,98,99,100,101,102,103,104,105,106,107,108,109,110,111,112,113,114,115,116,117,118,119,120,121,122,48,49,50,51,52,53,54,55,56,57]⟩:ByteArray) aI).bind λb7=>bif b7 then (Av y4 (⟨#[]⟩:ByteArray)) else ((Mu s8 0 1).bind λaJ=>(Bb F (⟨#[97,98,99,100,101,102,103,104,105,106,107,108,109,110,111,112,113,114,115,116,117,118,119,120,121,122]⟩:ByteArray) aJ).bind λb8=>bif b8 then ((Ku F s8 (⟨#[97,98,99,100,101,102,103,104,105,106,107,108,109,110,111,112,113,114,115,116,117,118,119,120,121,122,48,49,50,51,52,53,54,55,56,57,95]⟩:ByteArray)).bind λb9=>Av y4 b9) else ((Ts s8 (0:Int)).bind λaW=>bif (aW==48) then (Av y4 (⟨#[48]⟩:ByteArray)) else ((Mu s8 0 1).bind λaK=>(Bb F (⟨#[48,49,50,51,52,53,54,55,56,57]⟩:ByteArray) aK).bind λbA=>bif bA then ((Ku F s8 (⟨#[48,49,50,51,52,53,54,55,56,57]⟩:ByteArray)).bind λbB=>Av y4 bB) else ((Bt F s8 (⟨#[60,61]⟩:ByteArray)).bind λa3=>(gd ((a3==false&&true)) (Bt F s8 (⟨#[62,61]⟩:ByteArray)) default).bind λa8=>(gd (((bif a3 then true else a8)==false&&true)) (Bt F s8 (⟨#[33,61]⟩:ByteArray)) default).bind λbC=>bif (bif (bif a3 then true else a8) then true else bC) then ((Mu s8 0 2).bind λaL=>Av y4 aL) else ((Mu s8 0 1).bind λaM=>(Bb F (⟨#[60,62,61,43,45,40,41,58,59]⟩:ByteArray) aM).bind λbD=>bif bD then ((Mu s8 0 1).bind λaN=>Av y4 aN) else (Av y4 (⟨#[]⟩:ByteArray)))))))) else ((Mu s8 0 1).bind λaO=>(Bb F (⟨#[97,98,99,100,101,102,103,104,105,106,107,108,109,110,111,112,113,114,115,116,117,118,119,120,121,122]⟩:ByteArray) aO).bind λbE=>bif bE then ((Ku F s8 (⟨#[97,98,99,100,101,102,103,104,105,106,107,108,109,110,111,112,113,114,115,116,117,118,119,120,121,122,48,49,50,51,52,53,54,55,56,57,95]⟩:ByteArray)).bind λbF=>Av y4 bF) else ((Ts s8 (0:Int)).bind λaX=>bif (aX==48) then (Av y4 (⟨#[48]⟩:ByteArray)) else ((Mu s8 0 1).bind λaP=>(Bb F (⟨#[48,49,50,51,52,53,54,55,56,57]⟩:ByteArray) aP).bind λbG=>bif bG then ((Ku F s8 (⟨#[48,49,50,51,52,53,54,55,56,57]⟩:ByteArray)).bind λbH=>Av y4 bH) else ((Bt F s8 (⟨#[60,61]⟩:ByteArray)).bind λa4=>(gd ((a4==false&&true)) (Bt F s8 (⟨#[62,61]⟩:ByteArray)) default).bind λa9=>(gd (((bif a4 then true else a9)==false&&true)) (Bt F s8 (⟨#[33,61]⟩:ByteArray)) default).bind λbI=>bif (bif (bif a4 then true else a9) then true else bI) then ((Mu s8 0 2).bind λaQ=>Av y4 aQ) else ((Mu s8 0 1).bind λaR=>(Bb F (⟨#[60,62,61,43,45,40,41,58,59]⟩:ByteArray) aR).bind λbJ=>bif bJ then ((Mu s8 0 1).bind λaS=>Av y4 aS) else (Av y4 (⟨#[]⟩:ByteArray)))))))) else ((Mu s8 0 1).bind λaT=>(Bb F (⟨#[97,98,99,100,101,102,103,104,105,106,107,108,109,110,111,112,113,114,115,116,117,118,119,120,121,122]⟩:ByteArray) aT).bind λbK=>bif bK then ((Ku F s8 (⟨#[97,98,99,100,101,102,103,104,105,106,107,108,109,110,111,112,113,114,115,116,117,118,119,120,121,122,48,49,50,51,52,53,54,55,56,57,95]⟩:ByteArray)).bind λbL=>Av y4 bL) else ((Ts s8 (0:Int)).bind λaY=>bif (aY==48) then (Av y4 (⟨#[48]⟩:ByteArray)) else ((Mu s8 0 1).bind λaU=>(Bb F (⟨#[48,49,50,51,52,53,54,55,56,57]⟩:ByteArray) aU).bind λbM=>bif bM then ((Ku F s8 (⟨#[48,49,50,51,52,53,54,55,56,57]⟩:ByteArray)).bind λbN=>Av y4 bN) else ((Bt F s8 (⟨#[60,61]⟩:ByteArray)).bind λa5=>(gd ((a5==false&&true)) (Bt F s8 (⟨#[62,61]⟩:ByteArray)) default).bind λa6=>(gd (((bif a5 then true else a6)==false&&true)) (Bt F s8 (⟨#[33,61]⟩:ByteArray)) default).bind λaZ=>bif (bif (bif a5 then true else a6) then true else aZ) then ((Mu s8 0 2).bind λaA=>Av y4 aA) else ((Mu s8 0 1).bind λaB=>(Bb F (⟨#[60,62,61,43,45,40,41,58,59]⟩:ByteArray) aB).bind λb0=>bif b0 then ((Mu s8 0 1).bind λaC=>Av y4 aC) else (Av y4 (⟨#[]⟩:ByteArray))))))))) else ((Ml F p0).bind λa1=>(Mu a1.s a1.at_ ((a1.s.size:Nat):Int)).bind λa0=>bif (sEq a0 (⟨#[]⟩:ByteArray)) then (Ca a1 (⟨#[]⟩:ByteArray)) else ((Mu a0 0 1).bind λaD=>(Bb F (⟨#[97,98,99,100,101,102,103,104,105,106,107,108,109,110,111,112,113,114,115,116,117,118,119,120,121,122]⟩:ByteArray) aD).bind λb1=>bif b1 then ((Ku F a0 (⟨#[97,98,99,100,101,102,103,104,105,106,107,108,109,110,111,112,113,114,115,116,117,118,119,120,121,122,48,49,50,51,52,53,54,55,56,57,95]⟩:ByteArray)).bind λb2=>Ca a1 b2) else ((Ts a0 (0:Int)).bind λaV=>bif (aV==48) then (Ca a1 (⟨#[48]⟩:ByteArray)) else ((Mu a0 0 1).bind λaE=>(Bb F (⟨#[48,49,50,51,52,53,54,55,56,57]⟩:ByteArray) aE).bind λb3=>bif b3 then ((Ku F a0 (⟨#[48,49,50,51,52,53,54,55,56,57]⟩:ByteArray)).bind λb4=>Ca a1 b4) else ((Bt F a0 (⟨#[60,61]⟩:ByteArray)).bind λa2=>(gd ((a2==false&&true)) (Bt F a0 (⟨#[62,61]⟩:ByteArray)) default).bind λa7=>(gd (((bif a2 then true else a7)==false&&true)) (Bt F a0 (⟨#[33,61]⟩:ByteArray)) default).bind λb5=>bif (bif (bif a2 then true else a7) then true else b5) then ((Mu a0 0 2).bind λaF=>Ca a1 aF) else ((Mu a0 0 1).bind λaG=>(Bb F (⟨#[60,62,61,43,45,40,41,58,59]⟩:ByteArray) aG).bind λb6=>bif b6 then ((Mu a0 0 1).bind λaH=>Ca a1 aH) else (Ca a1 (⟨#[]⟩:ByteArray))))))))
def Da (F:Nat) (p0:zB):Option (Except (Value×zB) zB):=some (.error (.iface 146 (.int .i64 p0.from_),p0))
def Mm (F:Nat) (p0:zB) (p1:ByteArray):Option (Bool×zB):=bif (!(sEq p0.token p1)) then (some (false,p0)) else ((Bm F p0).bind λy1=>some (true,y1))
def Jd (F:Nat) (p0:zB) (p1:ByteArray):Option (Except (Value×zB) zB):=(Mm F p0 p1).bind λy1=>bif (!y1.1) then ((Da F (zB.mk y1.2.s y1.2.at_ y1.2.token y1.2.from_)).bind λy5=>exc y5 (λe7=>some (.error (e7.1,(zB.mk e7.2.s e7.2.at_ e7.2.token e7.2.from_)))) λy6=>some (.ok y6)) else (some (.ok (zB.mk y1.2.s y1.2.at_ y1.2.token y1.2.from_)))
def La (F:Nat) (a0:ByteArray) (a2:Int) (a1:ByteArray) (a3:Int) (a4:Int):Option (Except (Value×zB) (Int×zB)):=(Bm F (zB.mk a0 a2 a1 a3)).bind λa5=>some (.ok (a4,a5))
def Gt (a2:Int) (k3:ByteArray->Int->ByteArray->Int->Int->Int->Option (Except (Value×zB) (Int×zB))) (a0:ByteArray) (a3:Int) (a1:ByteArray) (a4:Int) (a5:Int):Option (Except (Value×zB) (Int×zB)):=(ck (a2+1)).bind λa6=>k3 a0 a3 a1 a4 a6 a5
def L9 (F:Nat) (p1:Int) (a8:List Int) (k3:ByteArray->Int->ByteArray->Int->Int->Int->Option (Except (Value×zB) (Int×zB))) (a3:ByteArray) (a5:Int) (a4:ByteArray) (a6:Int) (a1:Int) (a9:Int):Option (Except (Value×zB) (Int×zB)):=bif (decide (a1<(a8.length:Int))) then ((getI a8 a1).bind λaA=>(ck (10*a9)).bind λaB=>(ck (IntKind.u8.wrap (aA-48))).bind λaC=>(ck (aB+aC)).bind λa7=>bif (decide (a7>p1)) then ((Da F (zB.mk a3 a5 a4 a6)).bind λaD=>exc aD (λa0=>some (.error (a0.1,(zB.mk a0.2.s a0.2.at_ a0.2.token a0.2.from_)))) λa2=>Gt a1 k3 a2.s a2.at_ a2.token a2.from_ a7) else (Gt a1 k3 a3 a5 a4 a6 a7)) else (La F a3 a5 a4 a6 a9)
def Gu (F:Nat) (p1:Int) (a0:List Int):Nat->ByteArray->Int->ByteArray->Int->Int->Int->Option (Except (Value×zB) (Int×zB))
  | 0,_,_,_,_,_,_=>none
  | n+1,a1,a3,a2,a4,a5,a6=>L9 F p1 a0 (Gu F p1 a0 n) a1 a3 a2 a4 a5 a6
def Ev (F:Nat) (p1:Int) (a2:ByteArray) (a3:Int) (a0:ByteArray) (a4:Int):Option (Except (Value×zB) (Int×zB)):=(s2b a0).bind λa1=>Gu F p1 a1 F a2 a3 a0 a4 0 0
def Gr (F:Nat) (p0:zB) (p1:Int):Option (Except (Value×zB) (Int×zB)):=bif (sEq p0.token (⟨#[]⟩:ByteArray)) then ((Da F p0).bind λa5=>exc a5 (λa0=>some (.error (a0.1,(zB.mk a0.2.s a0.2.at_ a0.2.token a0.2.from_)))) λa2=>Ev F p1 a2.s a2.at_ a2.token a2.from_) else ((Mu p0.token 0 1).bind λa4=>(Bb F (⟨#[48,49,50,51,52,53,54,55,56,57]⟩:ByteArray) a4).bind λa6=>bif (!a6) then ((Da F p0).bind λa7=>exc a7 (λa1=>some (.error (a1.1,(zB.mk a1.2.s a1.2.at_ a1.2.token a1.2.from_)))) λa3=>Ev F p1 a3.s a3.at_ a3.token a3.from_) else (Ev F p1 p0.s p0.at_ p0.token p0.from_))
abbrev Aj:=zB->Option (Except (Value×zB) (zA×zB))
def Hs (F:Nat) (s149_:Aj) (a5:Int) (a6:Int) (a7:Int) (a8:Int) (a2:List zA) (a3:ByteArray) (a9:Int) (a4:ByteArray) (aA:Int) (k1:Int->Int->Int->Int->List zA->ByteArray->Int->ByteArray->Int->Option (Except (Value×zB) (zA×zB))) (aB:Int):Option (Except (Value×zB) (zA×zB)):=bif (aB==0) then (some (.ok ((zA.mk a5 a6 a7 a8 a2),(zB.mk a3 a9 a4 aA)))) else ((Bm F (zB.mk a3 a9 a4 aA)).bind λaC=>(s149_ aC).bind λaD=>exc aD (λa1=>some (.error (a1.1,(zB.mk a1.2.s a1.2.at_ a1.2.token a1.2.from_)))) λa0=>k1 aB 0 0 0 ([(zA.mk a5 a6 a7 a8 a2),(zA.mk a0.1.Op a0.1.Value_ a0.1.Rays a0.1.Gates a0.1.Args)]) a0.2.s a0.2.at_ a0.2.token a0.2.from_)
def Eo (a0:Int) (k3:Int->Int->Option (Except (Value×zB) (zA×zB))) (a1:Int):Option (Except (Value×zB) (zA×zB)):=(ck (a0+1)).bind λa2=>k3 a2 a1
def Hr (F:Nat) (s149_:Aj) (p2:List Int) (a7:Int) (a8:Int) (a9:Int) (aA:Int) (a4:List zA) (a5:ByteArray) (aB:Int) (a1:ByteArray) (aC:Int) (k1:Int->Int->Int->Int->List zA->ByteArray->Int->ByteArray->Int->Option (Except (Value×zB) (zA×zB))) (k3:Int->Int->Option (Except (Value×zB) (zA×zB))) (a0:Int) (a3:Int):Option (Except (Value×zB) (zA×zB)):=bif (decide (a0<(p2.length:Int))) then ((getI p2 a0).bind λa2=>(A3c Bj a2).bind λa6=>bif (sEq a1 a6) then (Eo a0 k3 a2) else (Eo a0 k3 a3)) else (Hs F s149_ a7 a8 a9 aA a4 a5 aB a1 aC k1 a3)
def Er (F:Nat) (s149_:Aj) (p2:List Int) (a3:Int) (a4:Int) (a5:Int) (a6:Int) (a0:List zA) (a1:ByteArray) (a7:Int) (a2:ByteArray) (a8:Int) (k1:Int->Int->Int->Int->List zA->ByteArray->Int->ByteArray->Int->Option (Except (Value×zB) (zA×zB))):Nat->Int->Int->Option (Except (Value×zB) (zA×zB))
  | 0,_,_=>none
  | n+1,a9,aA=>Hr F s149_ p2 a3 a4 a5 a6 a0 a1 a7 a2 a8 k1 (Er F s149_ p2 a3 a4 a5 a6 a0 a1 a7 a2 a8 k1 n) a9 aA
def Hq (F:Nat) (s149_:Aj) (p2:List Int) (k1:Int->Int->Int->Int->List zA->ByteArray->Int->ByteArray->Int->Option (Except (Value×zB) (zA×zB))) (a3:Int) (a4:Int) (a5:Int) (a6:Int) (a0:List zA) (a1:ByteArray) (a7:Int) (a2:ByteArray) (a8:Int):Option (Except (Value×zB) (zA×zB)):=Er F s149_ p2 a3 a4 a5 a6 a0 a1 a7 a2 a8 k1 F 0 0
def Ep (F:Nat) (s149_:Aj) (p2:List Int):Nat->Int->Int->Int->Int->List zA->ByteArray->Int->ByteArray->Int->Option (Except (Value×zB) (zA×zB))
  | 0,_,_,_,_,_,_,_,_,_=>none
  | n+1,a3,a4,a5,a6,a0,a1,a7,a2,a8=>Hq F s149_ p2 (Ep F s149_ p2 n) a3 a4 a5 a6 a0 a1 a7 a2 a8
def Ke (F:Nat) (s149_:Aj) (p0:zB) (p2:List Int):Option (Except (Value×zB) (zA×zB)):=(s149_ p0).bind λy5=>exc y5 (λe7=>some (.error (e7.1,(zB.mk e7.2.s e7.2.at_ e7.2.token e7.2.from_)))) λy6=>Ep F s149_ p2 F y6.1.Op y6.1.Value_ y6.1.Rays y6.1.Gates y6.1.Args y6.2.s y6.2.at_ y6.2.token y6.2.from_
def K0 (F:Nat) (s149_:Aj) (c0_:zB):Option (Except (Value×zB) (zA×zB)):=(Ke F s149_ c0_ ([4])).bind λy7=>exc y7 (λe9=>some (.error (e9.1,(zB.mk e9.2.s e9.2.at_ e9.2.token e9.2.from_)))) λy8=>some (.ok ((zA.mk y8.1.Op y8.1.Value_ y8.1.Rays y8.1.Gates y8.1.Args),(zB.mk y8.2.s y8.2.at_ y8.2.token y8.2.from_)))
def Hp (F:Nat) (s149_:Aj) (a5:Int) (a6:Int) (a7:Int) (a8:Int) (a2:List zA) (a3:ByteArray) (a9:Int) (a4:ByteArray) (aA:Int) (k1:Int->Int->Int->Int->List zA->ByteArray->Int->ByteArray->Int->Option (Except (Value×zB) (zA×zB))) (aB:Int):Option (Except (Value×zB) (zA×zB)):=bif (aB==0) then (some (.ok ((zA.mk a5 a6 a7 a8 a2),(zB.mk a3 a9 a4 aA)))) else ((Bm F (zB.mk a3 a9 a4 aA)).bind λaC=>(K0 F s149_ aC).bind λaD=>exc aD (λa1=>some (.error (a1.1,(zB.mk a1.2.s a1.2.at_ a1.2.token a1.2.from_)))) λa0=>k1 aB 0 0 0 ([(zA.mk a5 a6 a7 a8 a2),(zA.mk a0.1.Op a0.1.Value_ a0.1.Rays a0.1.Gates a0.1.Args)]) a0.2.s a0.2.at_ a0.2.token a0.2.from_)
def Ek (a0:Int) (k3:Int->Int->Option (Except (Value×zB) (zA×zB))) (a1:Int):Option (Except (Value×zB) (zA×zB)):=(ck (a0+1)).bind λa2=>k3 a2 a1
def Ho (F:Nat) (s149_:Aj) (p2:List Int) (a7:Int) (a8:Int) (a9:Int) (aA:Int) (a4:List zA) (a5:ByteArray) (aB:Int) (a1:ByteArray) (aC:Int) (k1:Int->Int->Int->Int->List zA->ByteArray->Int->ByteArray->Int->Option (Except (Value×zB) (zA×zB))) (k3:Int->Int->Option (Except (Value×zB) (zA×zB))) (a0:Int) (a3:Int):Option (Except (Value×zB) (zA×zB)):=bif (decide (a0<(p2.length:Int))) then ((getI p2 a0).bind λa2=>(A3c Bj a2).bind λa6=>bif (sEq a1 a6) then (Ek a0 k3 a2) else (Ek a0 k3 a3)) else (Hp F s149_ a7 a8 a9 aA a4 a5 aB a1 aC k1 a3)
def Em (F:Nat) (s149_:Aj) (p2:List Int) (a3:Int) (a4:Int) (a5:Int) (a6:Int) (a0:List zA) (a1:ByteArray) (a7:Int) (a2:ByteArray) (a8:Int) (k1:Int->Int->Int->Int->List zA->ByteArray->Int->ByteArray->Int->Option (Except (Value×zB) (zA×zB))):Nat->Int->Int->Option (Except (Value×zB) (zA×zB))
  | 0,_,_=>none
  | n+1,a9,aA=>Ho F s149_ p2 a3 a4 a5 a6 a0 a1 a7 a2 a8 k1 (Em F s149_ p2 a3 a4 a5 a6 a0 a1 a7 a2 a8 k1 n) a9 aA
def Hm (F:Nat) (s149_:Aj) (p2:List Int) (k1:Int->Int->Int->Int->List zA->ByteArray->Int->ByteArray->Int->Option (Except (Value×zB) (zA×zB))) (a3:Int) (a4:Int) (a5:Int) (a6:Int) (a0:List zA) (a1:ByteArray) (a7:Int) (a2:ByteArray) (a8:Int):Option (Except (Value×zB) (zA×zB)):=Em F s149_ p2 a3 a4 a5 a6 a0 a1 a7 a2 a8 k1 F 0 0
def El (F:Nat) (s149_:Aj) (p2:List Int):Nat->Int->Int->Int->Int->List zA->ByteArray->Int->ByteArray->Int->Option (Except (Value×zB) (zA×zB))
  | 0,_,_,_,_,_,_,_,_,_=>none
  | n+1,a3,a4,a5,a6,a0,a1,a7,a2,a8=>Hm F s149_ p2 (El F s149_ p2 n) a3 a4 a5 a6 a0 a1 a7 a2 a8
def Kd (F:Nat) (s149_:Aj) (p0:zB) (p2:List Int):Option (Except (Value×zB) (zA×zB)):=(K0 F s149_ p0).bind λy5=>exc y5 (λe7=>some (.error (e7.1,(zB.mk e7.2.s e7.2.at_ e7.2.token e7.2.from_)))) λy6=>El F s149_ p2 F y6.1.Op y6.1.Value_ y6.1.Rays y6.1.Gates y6.1.Args y6.2.s y6.2.at_ y6.2.token y6.2.from_
def Mj (F:Nat) (s149_:Aj) (p0:zB):Option (Except (Value×zB) (zA×zB)):=(Kd F s149_ p0 ([5])).bind λa2=>exc a2 (λa1=>some (.error (a1.1,(zB.mk a1.2.s a1.2.at_ a1.2.token a1.2.from_)))) λa0=>some (.ok ((zA.mk a0.1.Op a0.1.Value_ a0.1.Rays a0.1.Gates a0.1.Args),(zB.mk a0.2.s a0.2.at_ a0.2.token a0.2.from_)))
def Jz (F:Nat) (s149_:Aj) (p0:zB) (p1:Int):Option (Except (Value×zB) (zA×zB)):=(Gr F p0 3).bind λy2=>exc y2 (λe4=>some (.error (e4.1,(zB.mk e4.2.s e4.2.at_ e4.2.token e4.2.from_)))) λy3=>(Gr F (zB.mk y3.2.s y3.2.at_ y3.2.token y3.2.from_) 3).bind λa4=>exc a4 (λa1=>some (.error (a1.1,(zB.mk a1.2.s a1.2.at_ a1.2.token a1.2.from_)))) λa3=>(s149_ (zB.mk a3.2.s a3.2.at_ a3.2.token a3.2.from_)).bind λa5=>exc a5 (λa2=>some (.error (a2.1,(zB.mk a2.2.s a2.2.at_ a2.2.token a2.2.from_)))) λa0=>some (.ok ((zA.mk p1 0 y3.1 a3.1 ([(zA.mk a0.1.Op a0.1.Value_ a0.1.Rays a0.1.Gates a0.1.Args)])),(zB.mk a0.2.s a0.2.at_ a0.2.token a0.2.from_)))
def Mk (F:Nat) (s149_:Aj) (p0:zB):Option (Except (Value×zB) (zA×zB)):=(P9 F p0.token 15 25).bind λy2=>bif (y2==0) then ((Gr F p0 1000000000).bind λy3=>exc y3 (λe5=>some (.error (e5.1,(zB.mk e5.2.s e5.2.at_ e5.2.token e5.2.from_)))) λy4=>some (.ok ((zA.mk 14 y4.1 0 0 ([]:(List zA))),(zB.mk y4.2.s y4.2.at_ y4.2.token y4.2.from_)))) else (bif (y2==25) then ((Bm F p0).bind λa2=>(Jz F s149_ a2 25).bind λa3=>exc a3 (λa1=>some (.error (a1.1,(zB.mk a1.2.s a1.2.at_ a1.2.token a1.2.from_)))) λa0=>some (.ok ((zA.mk a0.1.Op a0.1.Value_ a0.1.Rays a0.1.Gates a0.1.Args),(zB.mk a0.2.s a0.2.at_ a0.2.token a0.2.from_)))) else ((Bm F p0).bind λa4=>some (.ok ((zA.mk y2 0 0 0 ([]:(List zA))),a4))))
def Hv (F:Nat) (s149_:Aj) (a5:Int) (a6:Int) (a7:Int) (a8:Int) (a2:List zA) (a3:ByteArray) (a9:Int) (a4:ByteArray) (aA:Int) (k1:Int->Int->Int->Int->List zA->ByteArray->Int->ByteArray->Int->Option (Except (Value×zB) (zA×zB))) (aB:Int):Option (Except (Value×zB) (zA×zB)):=bif (aB==0) then (some (.ok ((zA.mk a5 a6 a7 a8 a2),(zB.mk a3 a9 a4 aA)))) else ((Bm F (zB.mk a3 a9 a4 aA)).bind λaC=>(Mk F s149_ aC).bind λaD=>exc aD (λa1=>some (.error (a1.1,(zB.mk a1.2.s a1.2.at_ a1.2.token a1.2.from_)))) λa0=>k1 aB 0 0 0 ([(zA.mk a5 a6 a7 a8 a2),(zA.mk a0.1.Op a0.1.Value_ a0.1.Rays a0.1.Gates a0.1.Args)]) a0.2.s a0.2.at_ a0.2.token a0.2.from_)
def Es (a0:Int) (k3:Int->Int->Option (Except (Value×zB) (zA×zB))) (a1:Int):Option (Except (Value×zB) (zA×zB)):=(ck (a0+1)).bind λa2=>k3 a2 a1
def Hu (F:Nat) (s149_:Aj) (p2:List Int) (a7:Int) (a8:Int) (a9:Int) (aA:Int) (a4:List zA) (a5:ByteArray) (aB:Int) (a1:ByteArray) (aC:Int) (k1:Int->Int->Int->Int->List zA->ByteArray->Int->ByteArray->Int->Option (Except (Value×zB) (zA×zB))) (k3:Int->Int->Option (Except (Value×zB) (zA×zB))) (a0:Int) (a3:Int):Option (Except (Value×zB) (zA×zB)):=bif (decide (a0<(p2.length:Int))) then ((getI p2 a0).bind λa2=>(A3c Bj a2).bind λa6=>bif (sEq a1 a6) then (Es a0 k3 a2) else (Es a0 k3 a3)) else (Hv F s149_ a7 a8 a9 aA a4 a5 aB a1 aC k1 a3)
def Eu (F:Nat) (s149_:Aj) (p2:List Int) (a3:Int) (a4:Int) (a5:Int) (a6:Int) (a0:List zA) (a1:ByteArray) (a7:Int) (a2:ByteArray) (a8:Int) (k1:Int->Int->Int->Int->List zA->ByteArray->Int->ByteArray->Int->Option (Except (Value×zB) (zA×zB))):Nat->Int->Int->Option (Except (Value×zB) (zA×zB))
  | 0,_,_=>none
  | n+1,a9,aA=>Hu F s149_ p2 a3 a4 a5 a6 a0 a1 a7 a2 a8 k1 (Eu F s149_ p2 a3 a4 a5 a6 a0 a1 a7 a2 a8 k1 n) a9 aA
def Ht (F:Nat) (s149_:Aj) (p2:List Int) (k1:Int->Int->Int->Int->List zA->ByteArray->Int->ByteArray->Int->Option (Except (Value×zB) (zA×zB))) (a3:Int) (a4:Int) (a5:Int) (a6:Int) (a0:List zA) (a1:ByteArray) (a7:Int) (a2:ByteArray) (a8:Int):Option (Except (Value×zB) (zA×zB)):=Eu F s149_ p2 a3 a4 a5 a6 a0 a1 a7 a2 a8 k1 F 0 0
def Et (F:Nat) (s149_:Aj) (p2:List Int):Nat->Int->Int->Int->Int->List zA->ByteArray->Int->ByteArray->Int->Option (Except (Value×zB) (zA×zB))
  | 0,_,_,_,_,_,_,_,_,_=>none
  | n+1,a3,a4,a5,a6,a0,a1,a7,a2,a8=>Ht F s149_ p2 (Et F s149_ p2 n) a3 a4 a5 a6 a0 a1 a7 a2 a8
def Ga (F:Nat) (s149_:Aj) (p0:zB) (p2:List Int):Option (Except (Value×zB) (zA×zB)):=(Mk F s149_ p0).bind λy5=>exc y5 (λe7=>some (.error (e7.1,(zB.mk e7.2.s e7.2.at_ e7.2.token e7.2.from_)))) λy6=>Et F s149_ p2 F y6.1.Op y6.1.Value_ y6.1.Rays y6.1.Gates y6.1.Args y6.2.s y6.2.at_ y6.2.token y6.2.from_
def Gx (F:Nat) (s149_:Aj) (a2:zA×zB) (a9:Int) (a3:ByteArray) (a5:Int) (a4:ByteArray) (a6:Int):Option (Except (Value×zB) (zA×zB)):=(Bm F (zB.mk a3 a5 a4 a6)).bind λa7=>(Ga F s149_ a7 ([26,27])).bind λa8=>exc a8 (λa1=>some (.error (a1.1,(zB.mk a1.2.s a1.2.at_ a1.2.token a1.2.from_)))) λa0=>some (.ok ((zA.mk a9 0 0 0 ([(zA.mk a2.1.Op a2.1.Value_ a2.1.Rays a2.1.Gates a2.1.Args),(zA.mk a0.1.Op a0.1.Value_ a0.1.Rays a0.1.Gates a0.1.Args)])),(zB.mk a0.2.s a0.2.at_ a0.2.token a0.2.from_)))
def Gw (F:Nat) (s149_:Aj) (p0:zB) (y2:Int) (aB:Bool):Option (Except (Value×zB) (zA×zB)):=bif aB then ((Bm F p0).bind λaD=>(Jz F s149_ aD y2).bind λaE=>exc aE (λa5=>some (.error (a5.1,(zB.mk a5.2.s a5.2.at_ a5.2.token a5.2.from_)))) λa1=>some (.ok ((zA.mk a1.1.Op a1.1.Value_ a1.1.Rays a1.1.Gates a1.1.Args),(zB.mk a1.2.s a1.2.at_ a1.2.token a1.2.from_)))) else ((Mm F p0 (⟨#[40]⟩:ByteArray)).bind λa2=>bif a2.1 then ((Mj F s149_ (zB.mk a2.2.s a2.2.at_ a2.2.token a2.2.from_)).bind λaF=>exc aF (λa6=>some (.error (a6.1,(zB.mk a6.2.s a6.2.at_ a6.2.token a6.2.from_)))) λa3=>(Jd F (zB.mk a3.2.s a3.2.at_ a3.2.token a3.2.from_) (⟨#[41]⟩:ByteArray)).bind λaG=>exc aG (λa7=>some (.error (a7.1,(zB.mk a7.2.s a7.2.at_ a7.2.token a7.2.from_)))) λaH=>some (.ok ((zA.mk a3.1.Op a3.1.Value_ a3.1.Rays a3.1.Gates a3.1.Args),aH))) else ((Ga F s149_ (zB.mk a2.2.s a2.2.at_ a2.2.token a2.2.from_) ([26,27])).bind λaI=>exc aI (λa8=>some (.error (a8.1,(zB.mk a8.2.s a8.2.at_ a8.2.token a8.2.from_)))) λa0=>(P9 F a0.2.token 8 13).bind λaA=>bif (aA==0) then ((Da F (zB.mk a0.2.s a0.2.at_ a0.2.token a0.2.from_)).bind λaC=>exc aC (λa4=>some (.error (a4.1,(zB.mk a4.2.s a4.2.at_ a4.2.token a4.2.from_)))) λa9=>Gx F s149_ a0 aA a9.s a9.at_ a9.token a9.from_) else (Gx F s149_ a0 aA a0.2.s a0.2.at_ a0.2.token a0.2.from_)))
def Gv (F:Nat) (s149_:Aj) (p0:zB) (y2:Int) (c3:Bool):Option (Except (Value×zB) (zA×zB)):=bif c3 then ((Bm F p0).bind λy4=>some (.ok ((zA.mk y2 0 0 0 ([]:(List zA))),y4))) else (bif (y2==3) then ((Bm F p0).bind λy8=>(s149_ y8).bind λa2=>exc a2 (λa1=>some (.error (a1.1,(zB.mk a1.2.s a1.2.at_ a1.2.token a1.2.from_)))) λa0=>some (.ok ((zA.mk 3 0 0 0 ([(zA.mk a0.1.Op a0.1.Value_ a0.1.Rays a0.1.Gates a0.1.Args)])),(zB.mk a0.2.s a0.2.at_ a0.2.token a0.2.from_)))) else (bif (y2==6) then (Gw F s149_ p0 y2 (y2==6)) else (Gw F s149_ p0 y2 (y2==7))))
def Pb (F:Nat) (s149_:Aj) (p0:zB):Option (Except (Value×zB) (zA×zB)):=(P9 F p0.token 1 7).bind λy2=>bif (y2==1) then (Gv F s149_ p0 y2 (y2==1)) else (Gv F s149_ p0 y2 (y2==2))
def Je:Nat->Aj
  | 0=>λ_=>none
  | F+1=>Pb F (Je F)
def Mg (a1:ByteArray) (a3:Int) (a2:ByteArray) (a4:Int) (a0:List zJ):Option (Except (Value×zB) ((List zJ)×zB)):=some (.ok (a0,(zB.mk a1 a3 a2 a4)))
def Fk (F:Nat) (a7:ByteArray) (a5:List zJ) (k2:ByteArray->Int->ByteArray->Int->List zJ->Option (Except (Value×zB) ((List zJ)×zB))) (a8:ByteArray) (aA:Int) (a9:ByteArray) (aB:Int):Option (Except (Value×zB) ((List zJ)×zB)):=(Bm F (zB.mk a8 aA a9 aB)).bind λaC=>(Jd F aC (⟨#[58]⟩:ByteArray)).bind λaD=>exc aD (λa1=>some (.error (a1.1,(zB.mk a1.2.s a1.2.at_ a1.2.token a1.2.from_)))) λaE=>(Mj F (Je F) aE).bind λaF=>exc aF (λa2=>some (.error (a2.1,(zB.mk a2.2.s a2.2.at_ a2.2.token a2.2.from_)))) λa0=>(Jd F (zB.mk a0.2.s a0.2.at_ a0.2.token a0.2.from_) (⟨#[59]⟩:ByteArray)).bind λaG=>exc aG (λa3=>some (.error (a3.1,(zB.mk a3.2.s a3.2.at_ a3.2.token a3.2.from_)))) λa4=>(apd 72 a5 ([(zJ.mk a7 (zA.mk a0.1.Op a0.1.Value_ a0.1.Rays a0.1.Gates a0.1.Args))])).bind λa6=>k2 a4.s a4.at_ a4.token a4.from_ a6
def Mf (F:Nat) (k2:ByteArray->Int->ByteArray->Int->List zJ->Option (Except (Value×zB) ((List zJ)×zB))) (a3:ByteArray) (a6:Int) (a0:ByteArray) (a4:Int) (a5:List zJ):Option (Except (Value×zB) ((List zJ)×zB)):=bif (decide (a4<((a3.size:Nat):Int))) then (bif (sEq a0 (⟨#[]⟩:ByteArray)) then ((gd ((true==false&&true)) (sift_word F a0) default).bind λaE=>(Da F (zB.mk a3 a6 a0 a4)).bind λaB=>exc aB (λa1=>some (.error (a1.1,(zB.mk a1.2.s a1.2.at_ a1.2.token a1.2.from_)))) λa7=>Fk F a0 a5 k2 a7.s a7.at_ a7.token a7.from_) else ((Mu a0 0 1).bind λaA=>(Bb F (⟨#[97,98,99,100,101,102,103,104,105,106,107,108,109,110,111,112,113,114,115,116,117,118,119,120,121,122]⟩:ByteArray) aA).bind λa9=>(gd (((!a9)==false&&true)) (sift_word F a0) default).bind λaC=>bif (bif (bif (!a9) then true else aC) then true else (decide (((a0.size:Nat):Int)>12))) then ((Da F (zB.mk a3 a6 a0 a4)).bind λaD=>exc aD (λa2=>some (.error (a2.1,(zB.mk a2.2.s a2.2.at_ a2.2.token a2.2.from_)))) λa8=>Fk F a0 a5 k2 a8.s a8.at_ a8.token a8.from_) else (Fk F a0 a5 k2 a3 a6 a0 a4))) else (Mg a3 a6 a0 a4 a5)
def J8 (F:Nat):Nat->ByteArray->Int->ByteArray->Int->List zJ->Option (Except (Value×zB) ((List zJ)×zB))
  | 0,_,_,_,_,_=>none
  | n+1,a1,a3,a2,a4,a0=>Mf F (J8 F n) a1 a3 a2 a4 a0
def Q2 (F:Nat) (p0:zB):Option (Except (Value×zB) ((List zJ)×zB)):=(Bm F p0).bind λa0=>J8 F F a0.s a0.at_ a0.token a0.from_ ([])
def P8 (F:Nat) (p0:ByteArray):Option ((List zJ)×Int×Int):=bif (decide (((p0.size:Nat):Int)>65536)) then (some (([]:(List zJ)),0,8)) else ((Q2 F (zB.mk p0 0 ByteArray.empty 0)).bind λy5=>exc y5 (λe7=>(asI 146 .i64 e7.1).bind λa1=>some (([]:(List zJ)),a1,7)) λy6=>(J5 F y6.1).bind λa0=>bif (a0 != 0) then (some (([]:(List zJ)),0,a0)) else (some (y6.1,0,0)))
def Ra:Option Bool:=some true
def Kb (p0:List Int) (p1:List Int) (k2:Int->Option Bool) (a0:Int):Option Bool:=bif (decide (a0<(p0.length:Int))) then ((getI p0 a0).bind λa1=>(getI p1 a0).bind λa2=>bif (a1 != a2) then (some false) else ((ck (a0+1)).bind λa3=>k2 a3)) else (Ra)
def Kc (p0:List Int) (p1:List Int):Nat->Int->Option Bool
  | 0,_=>none
  | n+1,a0=>Kb p0 p1 (Kc p0 p1 n) a0
def Jq (F:Nat) (p0:List Int) (p1:List Int):Option Bool:=bif ((p0.length:Int) != (p1.length:Int)) then (some false) else (Kc p0 p1 F 0)
def Sg (F:Nat) (p0:zA) (p2:zF) (p3:Int) (p4:Int):Option (Except Int (zH×Int)):=(Ct F p0 300).bind λa1=>bif (decide (a1>300)) then (some (.error 9)) else ((Fg F p0).bind λa2=>bif (decide (a2>12)) then (some (.error 24)) else ((gd (((!(sift_isCondition p0))==false&&true)) (Bs F p0) default).bind λa3=>bif (bif (!(sift_isCondition p0)) then true else (!a3)) then (some (.error 2)) else ((Dn F p2).bind λa0=>bif (a0 != 0) then (some (.error a0)) else (bif (bif (bif (decide ((if p4<p3 then p4 else p3)<0)) then true else (decide (p3>=(p2.Rays.length:Int)))) then true else (decide (p4>=p2.Site.Gates))) then (some (.error 4)) else ((Qz F p2).bind λa4=>some (.ok (a4,0)))))))
def A07 (F:Nat) (p0:zA) (p1:zF) (p2:Int) (p3:Int):Option (Int×Int):=(Sg F p0 p1 p2 p3).bind λa5=>exc a5 (λa1=>bif (a1 != 0) then (some (0,a1)) else (none)) (λa0=>bif (a0.2 != 0) then (some (0,a0.2)) else ((ck (p2*p1.Site.Gates)).bind λa3=>(ck (a3+p3)).bind λa4=>(Fi F (zH.mk (zF.mk (zP.mk a0.1.s.Site.Name a0.1.s.Site.X a0.1.s.Site.Y a0.1.s.Site.Z a0.1.s.Site.Rose a0.1.s.Site.Gates a0.1.s.Site.Step a0.1.s.Site.Width) a0.1.s.Tilt a0.1.s.Time a0.1.s.Rays) a0.1.n a0.1.tests a0.1.values) p0).bind λa6=>(getI a6.1 a4).bind λa2=>some (a2,0)))
def As (p0:Int) (p1:Int):zC:=(zC.mk p0 p1)
def R9 (a0:List (List zD)):Option zF:=(getI a0 0).bind λa1=>(getI a1 1).bind λa4=>(L0 a1 1 (zD.mk 2 (As 10 20) ((zC.mk 0 0),(zC.mk 0 0)) 7 (As 100 100) (As 900 950) (zC.mk 0 0))).bind λa2=>(L0 a0 0 a2).bind λa3=>some (zF.mk (zP.mk (⟨#[115]⟩:ByteArray) 0 0 0 1 2 500 0) 3 0 a3)
def R8 (k2:List (List zD)->Int->Option zF) (a0:List (List zD)) (a1:Int):Option zF:=bif (decide (a1<4)) then ((apd 24 a0 ([[(zD.mk 1 (As 0 5) ((zC.mk 0 0),(zC.mk 0 0)) 0 (zC.mk 0 0) (zC.mk 0 0) (zC.mk 0 0)),(zD.mk 1 (As 0 5) ((zC.mk 0 0),(zC.mk 0 0)) 0 (zC.mk 0 0) (zC.mk 0 0) (zC.mk 0 0))]])).bind λa2=>(ck (a1+1)).bind λa3=>k2 a2 a3) else (R9 a0)
def Nz:Nat->List (List zD)->Int->Option zF
  | 0,_,_=>none
  | n+1,a0,a1=>R8 (Nz n) a0 a1
def Rk (F:Nat):Option zF:=Nz F ([]) 0
def H8 (F:Nat) (p0:ByteArray) (p1:Int):Option Bool:=(Sq (⟨#[97,58,32]⟩:ByteArray) p0).bind λs1=>(Sq s1 (⟨#[59]⟩:ByteArray)).bind λs2=>(P8 F s2).bind λy4=>bif (bif (y4.2.2 != 0) then true else ((y4.1.length:Int) != 1)) then (some false) else ((getI y4.1 0).bind λa1=>(Rk F).bind λa2=>(A07 F a1.When a2 0 1).bind λa0=>some (bif (a0.2==0) then (a0.1==p1) else false))
def L5 (F:Nat):Option Bool:=(P8 F (⟨#[97,58,32,112,111,119,101,114,32,62,32,52,32,97,110,100,32,110,111,116,32,109,97,116,99,104,32,62,61,32,57,48,48,32,111,114,32,116,105,108,116,32,61,32,51,59]⟩:ByteArray)).bind λy2=>(Vg F y2.1).bind λy9=>(P8 F (⟨#[97,58,32,40,112,111,119,101,114,41,32,60,32,51,59]⟩:ByteArray)).bind λa8=>(P8 F (⟨#[110,111,116,58,32,116,114,117,101,59]⟩:ByteArray)).bind λaD=>bif (bif (bif (bif (bif (bif (bif (bif (y2.2.2 != 0) then true else (y9.2 != 0)) then true else (a8.2.2 != 7)) then true else (aD.2.2 != 7)) then true else (y2.2.1 != 0)) then true else (a8.2.1 != 9)) then true else (aD.2.1 != 0)) then true else (!(sEq y9.1 (⟨#[97,58,32,40,40,40,112,111,119,101,114,32,62,32,52,41,32,97,110,100,32,110,111,116,32,40,109,97,116,99,104,32,62,61,32,57,48,48,41,41,32,111,114,32,40,116,105,108,116,32,61,32,51,41,41,59,10]⟩:ByteArray)))) then (some false) else ((H8 F (⟨#[112,111,119,101,114,32,62,32,57]⟩:ByteArray) 1).bind λa0=>(gd (((!a0)==false&&true)) (H8 F (⟨#[112,111,119,101,114,32,62,32,49,48]⟩:ByteArray) 2) default).bind λa1=>(gd (((bif (!a0) then true else (!a1))==false&&true)) (H8 F (⟨#[112,111,119,101,114,32,62,32,50,48]⟩:ByteArray) 3) default).bind λa3=>(gd (((bif (bif (!a0) then true else (!a1)) then true else (!a3))==false&&true)) (H8 F (⟨#[116,117,114,110,32,61,32,48]⟩:ByteArray) 3) default).bind λa4=>(gd (((bif (bif (bif (!a0) then true else (!a1)) then true else (!a3)) then true else (!a4))==false&&true)) (H8 F (⟨#[110,111,116,32,116,117,114,110,32,61,32,48]⟩:ByteArray) 1) default).bind λa5=>(gd (((bif (bif (bif (bif (!a0) then true else (!a1)) then true else (!a3)) then true else (!a4)) then true else (!a5))==false&&true)) (H8 F (⟨#[99,111,117,110,116,32,49,32,49,32,107,105,110,100,32,61,32,49,32,61,32,53]⟩:ByteArray) 1) default).bind λa7=>(gd (((bif (bif (bif (bif (bif (!a0) then true else (!a1)) then true else (!a3)) then true else (!a4)) then true else (!a5)) then true else (!a7))==false&&true)) (H8 F (⟨#[99,111,117,110,116,32,51,32,51,32,112,111,119,101,114,32,62,32,52,32,60,32,56]⟩:ByteArray) 1) default).bind λaE=>(gd (((bif (bif (bif (bif (bif (bif (!a0) then true else (!a1)) then true else (!a3)) then true else (!a4)) then true else (!a5)) then true else (!a7)) then true else (!aE))==false&&true)) (H8 F (⟨#[97,108,108,32,48,32,48,32,102,97,108,115,101]⟩:ByteArray) 1) default).bind λaQ=>bif (bif (bif (bif (bif (bif (bif (bif (!a0) then true else (!a1)) then true else (!a3)) then true else (!a4)) then true else (!a5)) then true else (!a7)) then true else (!aE)) then true else (!aQ)) then (some false) else ((P8 F (⟨#[97,58,32,109,97,116,99,104,32,60,32,57,50,48,59,32,98,58,32,107,105,110,100,32,61,32,50,59,32,99,58,32,116,114,117,101,59]⟩:ByteArray)).bind λaF=>(Rk F).bind λaR=>(J6 F aF.1 aR).bind λa2=>bif (bif (bif (aF.2.2 != 0) then true else (a2.2 != 0)) then true else ((a2.1.length:Int) != 4)) then (some false) else ((getI a2.1 0).bind λaK=>bif ((aK.length:Int) != 2) then (some false) else ((getI a2.1 0).bind λaL=>(getI aL 1).bind λaM=>bif (aM.Rule != 1) then (some false) else ((getI a2.1 0).bind λaN=>(getI aN 1).bind λaO=>(Jq F aO.Doubts ([0])).bind λaP=>bif (!aP) then (some false) else ((getI a2.1 0).bind λaG=>(getI aG 0).bind λaH=>bif (aH.Rule != 2) then (some false) else ((getI a2.1 0).bind λaI=>(getI aI 0).bind λaJ=>bif ((aJ.Doubts.length:Int) != 0) then (some false) else ((P8 F (⟨#[97,58,32,115,111,109,101,32,49,32,50,32,99,111,117,110,116,32,50,32,48,32,112,111,119,101,114,32,62,32,49,32,62,32,51,59]⟩:ByteArray)).bind λa9=>(Yh F a9.1).bind λa6=>(P8 F (⟨#[97,58,32,110,111,116,32,40,112,111,119,101,114,32,62,32,49,32,97,110,100,32,110,111,116,32,115,111,109,101,32,49,32,49,32,116,114,117,101,41,59]⟩:ByteArray)).bind λaA=>(Yg F aA.1).bind λaB=>(Vg F aB.1).bind λaC=>some (bif (bif (bif (bif (bif (bif (bif (a9.2.2==0) then (a6.2.2==0) else false) then (aA.2.2==0) else false) then (aB.2==0) else false) then (aC.2==0) else false) then (a6.1==3) else false) then (a6.2.1==2) else false) then (sEq aC.1 (⟨#[97,58,32,40,110,111,116,32,40,112,111,119,101,114,32,62,32,49,41,32,111,114,32,115,111,109,101,32,49,32,49,32,116,114,117,101,41,59,10]⟩:ByteArray)) else false)))))))))
def Rl (p0:zG) (a0:List zA):Option zA:=some (zA.mk p0.Op p0.Value_ p0.Rays p0.Gates a0)
def Pf (self_:zG->Option zA) (p0:zG) (k2:List zA->Int->Option zA) (a1:List zA) (a0:Int):Option zA:=bif (decide (a0<(p0.Args.length:Int))) then ((getI p0.Args a0).bind λa3=>(self_ a3).bind λa5=>(apd 56 a1 ([a5])).bind λa2=>(ck (a0+1)).bind λa4=>k2 a2 a4) else (Rl p0 a1)
def Pg (self_:zG->Option zA) (p0:zG):Nat->List zA->Int->Option zA
  | 0,_,_=>none
  | n+1,a0,a1=>Pf self_ p0 (Pg self_ p0 n) a0 a1
def V9 (F:Nat) (self_:zG->Option zA) (p0:zG):Option zA:=Pg self_ p0 F ([]) 0
def Mv:Nat->zG->Option zA
  | 0,_=>none
  | F+1,p0=>V9 F (Mv F) p0
def Qg (a0:List zJ):Option (List zJ):=some a0
def Mw (F:Nat) (p0:List zN) (k2:List zJ->Int->Option (List zJ)) (a1:List zJ) (a0:Int):Option (List zJ):=bif (decide (a0<(p0.length:Int))) then ((getI p0 a0).bind λa3=>(getI p0 a0).bind λa4=>(Mv F a4.When).bind λa6=>(apd 72 a1 ([(zJ.mk a3.Name a6)])).bind λa2=>(ck (a0+1)).bind λa5=>k2 a2 a5) else (Qg a1)
def Mx (F:Nat) (p0:List zN):Nat->List zJ->Int->Option (List zJ)
  | 0,_,_=>none
  | n+1,a0,a1=>Mw F p0 (Mx F p0 n) a0 a1
def Q7 (F:Nat) (p0:List zN):Option (List zJ):=Mx F p0 F ([]) 0
def Ro:Option Bool:=some true
def Rn (p0:ByteArray) (k2:Int->Option Bool) (a1:Int):Option Bool:=bif (decide (a1<((p0.size:Nat):Int))) then ((Ts p0 a1).bind λa0=>bif (bif (bif (bif (decide (a0<97)) then true else (decide (a0>122))) then (bif (decide (a0<48)) then true else (decide (a0>57))) else false) then (a0 != 95) else false) then (some false) else ((ck (a1+1)).bind λa2=>k2 a2)) else (Ro)
def M6 (p0:ByteArray):Nat->Int->Option Bool
  | 0,_=>none
  | n+1,a0=>Rn p0 (M6 p0 n) a0
def Re (F:Nat) (p0:ByteArray):Option Bool:=(gd (((bif (decide (((p0.size:Nat):Int)<1)) then true else (decide (((p0.size:Nat):Int)>12)))==false&&true)) (Ts p0 (0:Int)) default).bind λu1=>(gd (((bif (bif (decide (((p0.size:Nat):Int)<1)) then true else (decide (((p0.size:Nat):Int)>12))) then true else (decide (u1<97)))==false&&true)) (Ts p0 (0:Int)) default).bind λu2=>bif (bif (bif (bif (decide (((p0.size:Nat):Int)<1)) then true else (decide (((p0.size:Nat):Int)>12))) then true else (decide (u1<97))) then true else (decide (u2>122))) then (some false) else (M6 p0 F 0)
def Rf (F:Nat) (p0:Int):Option ByteArray:=bif (bif (decide (p0<1)) then true else (decide (p0>=((28:Nat):Int)))) then (some (⟨#[]⟩:ByteArray)) else ((getI ([(⟨#[]⟩:ByteArray),(⟨#[116,114,117,101]⟩:ByteArray),(⟨#[102,97,108,115,101]⟩:ByteArray),(⟨#[110,111,116]⟩:ByteArray),(⟨#[97,110,100]⟩:ByteArray),(⟨#[111,114]⟩:ByteArray),(⟨#[115,111,109,101]⟩:ByteArray),(⟨#[97,108,108]⟩:ByteArray),(⟨#[60]⟩:ByteArray),(⟨#[60,61]⟩:ByteArray),(⟨#[62]⟩:ByteArray),(⟨#[62,61]⟩:ByteArray),(⟨#[61]⟩:ByteArray),(⟨#[33,61]⟩:ByteArray),(⟨#[]⟩:ByteArray),(⟨#[112,111,119,101,114]⟩:ByteArray),(⟨#[114,97,116,105,111]⟩:ByteArray),(⟨#[109,97,116,99,104]⟩:ByteArray),(⟨#[115,112,114,101,97,100]⟩:ByteArray),(⟨#[116,117,114,110]⟩:ByteArray),(⟨#[115,116,101,112]⟩:ByteArray),(⟨#[107,105,110,100]⟩:ByteArray),(⟨#[114,97,121]⟩:ByteArray),(⟨#[103,97,116,101]⟩:ByteArray),(⟨#[116,105,108,116]⟩:ByteArray),(⟨#[99,111,117,110,116]⟩:ByteArray),(⟨#[43]⟩:ByteArray),(⟨#[45]⟩:ByteArray)]) p0).bind λu2=>some u2)
def Rr:Option Int:=some 0
def Pi (F:Nat) (p0:ByteArray) (p2:Int) (k2:Int->Option Int) (a0:Int):Option Int:=bif (decide (a0<=p2)) then ((Rf F a0).bind λa1=>(gd (((!(sEq a1 (⟨#[]⟩:ByteArray)))==true&&true)) (Rf F a0) default).bind λa3=>bif (bif (!(sEq a1 (⟨#[]⟩:ByteArray))) then (sEq a3 p0) else false) then (some a0) else ((ck (a0+1)).bind λa2=>k2 a2)) else (Rr)
def M8 (F:Nat) (p0:ByteArray) (p2:Int):Nat->Int->Option Int
  | 0,_=>none
  | n+1,a0=>Pi F p0 p2 (M8 F p0 p2 n) a0
def Vf (F:Nat) (p0:ByteArray) (p1:Int) (p2:Int):Option Int:=M8 F p0 p2 F p1
def Tl (F:Nat) (p0:ByteArray):Option Bool:=(Vf F p0 1 25).bind λy1=>some (bif (y1 != 0) then (bif (decide (y1<8)) then true else (decide (y1>13))) else false)
def Qo (a0:Int):Option Int:=(ck (1+a0)).bind λa1=>some a1
def Ng (self_:zG->Option Int) (p0:zG) (k2:Int->Int->Option Int) (a0:Int) (a1:Int):Option Int:=bif (decide (a1<(p0.Args.length:Int))) then ((getI p0.Args a1).bind λa3=>(self_ a3).bind λa2=>(ck (a1+1)).bind λa4=>k2 (if a2>a0 then a2 else a0) a4) else (Qo a0)
def Kk (self_:zG->Option Int) (p0:zG):Nat->Int->Int->Option Int
  | 0,_,_=>none
  | n+1,a0,a1=>Ng self_ p0 (Kk self_ p0 n) a0 a1
def U8 (F:Nat) (self_:zG->Option Int) (p0:zG):Option Int:=Kk self_ p0 F 0 0
def H9:Nat->zG->Option Int
  | 0,_=>none
  | F+1,p0=>U8 F (H9 F) p0
def Ao (p0:Int) (p1:Int) (p2:Int):Bool:=bif (decide (p0>=p1)) then (decide (p0<=p2)) else false
abbrev Cb:=zG->Option Bool
abbrev E7:=zG->Option Bool
def Jl:Option Bool:=some true
def G6 (s65_:Cb) (s101_:E7) (p0:zG) (k4:Int->Option Bool) (a0:Int):Option Bool:=bif (decide (a0<(p0.Args.length:Int))) then (bif (decide (p0.Op>=8)) then ((getI p0.Args a0).bind λa1=>(s101_ a1).bind λa8=>bif (!a8) then (some false) else (bif (decide (p0.Op<8)) then ((getI p0.Args a0).bind λa2=>(s65_ a2).bind λa9=>bif (!a9) then (some false) else ((ck (a0+1)).bind λa4=>k4 a4)) else ((ck (a0+1)).bind λa5=>k4 a5))) else (bif (decide (p0.Op<8)) then ((getI p0.Args a0).bind λa3=>(s65_ a3).bind λaA=>bif (!aA) then (some false) else ((ck (a0+1)).bind λa6=>k4 a6)) else ((ck (a0+1)).bind λa7=>k4 a7))) else (Jl)
def Dl (s65_:Cb) (s101_:E7) (p0:zG):Nat->Int->Option Bool
  | 0,_=>none
  | n+1,a0=>G6 s65_ s101_ p0 (Dl s65_ s101_ p0 n) a0
def G8 (F:Nat) (s65_:Cb) (s101_:E7) (p0:zG) (x7:Int):Option Bool:=bif ((p0.Args.length:Int) != x7) then (some false) else (Dl s65_ s101_ p0 F 0)
def G7 (F:Nat) (s65_:Cb) (s101_:E7) (p0:zG) (x6:Int):Option Bool:=bif (bif (bif (p0.Op==4) then true else (p0.Op==5)) then true else (decide (p0.Op>=8))) then (G8 F s65_ s101_ p0 2) else (G8 F s65_ s101_ p0 x6)
def Jk (F:Nat) (s65_:Cb) (s101_:E7) (p0:zG):Option Bool:=bif (bif (bif (bif (bif (bif (decide (p0.Op<1)) then true else (decide (p0.Op>13))) then true else (p0.Value_ != 0)) then true else (bif (bif (p0.Op != 6) then (p0.Op != 7) else false) then (bif (p0.Rays != 0) then true else (p0.Gates != 0)) else false)) then true else (!(Ao p0.Rays 0 3))) then true else (!(Ao p0.Gates 0 3))) then (some false) else (bif (decide (p0.Op<=2)) then (G7 F s65_ s101_ p0 0) else (G7 F s65_ s101_ p0 1))
def Pl (F:Nat) (s65_:Cb) (s101_:E7) (p0:zG):Option Bool:=bif (bif (bif (bif (bif (bif (bif (decide (p0.Op<14)) then true else (decide (p0.Op>27))) then true else (!(Ao p0.Value_ 0 1000000000))) then true else (bif (p0.Op != 14) then (p0.Value_ != 0) else false)) then true else (bif (p0.Op != 25) then (bif (p0.Rays != 0) then true else (p0.Gates != 0)) else false)) then true else (!(Ao p0.Rays 0 3))) then true else (!(Ao p0.Gates 0 3))) then (some false) else (bif (p0.Op==25) then (bif ((p0.Args.length:Int)==1) then ((getI p0.Args 0).bind λu7=>(s65_ u7).bind λa3=>some a3) else (some false)) else (bif (decide (p0.Op>=26)) then (bif ((p0.Args.length:Int)==2) then ((getI p0.Args 0).bind λa0=>(s101_ a0).bind λa4=>bif a4 then ((getI p0.Args 1).bind λa1=>(s101_ a1).bind λa5=>bif a5 then ((getI p0.Args 1).bind λa2=>some (decide (a2.Op<26))) else (some false)) else (some false)) else (some false)) else (some ((p0.Args.length:Int)==0))))
def Bp:Nat->Cb×E7
  | 0=>(λ_=>none,λ_=>none)
  | F+1=>(Jk F (Bp F).1 (Bp F).2,Pl F (Bp F).1 (Bp F).2)
def Cy (F:Nat):Cb:=(Bp F).1
def Jm (F:Nat):E7:=(Bp F).2
def Th:Option Int:=some 0
def Ql (a0:Int) (k3:Int->Option Int):Option Int:=(ck (a0+1)).bind λa1=>k3 a1
def Nb (F:Nat) (p0:List zN) (a0:Int) (k3:Int->Option Int):Option Int:=(getI p0 a0).bind λa1=>(H9 F a1.When).bind λa3=>bif (decide (a3>12)) then (some 24) else ((getI p0 a0).bind λa2=>(Cy F a2.When).bind λa4=>bif (!a4) then (some 2) else (Ql a0 k3))
def Kg (F:Nat) (p0:List zN) (a0:Int) (k3:Int->Option Int) (k6:Int->Option Int) (a1:Int):Option Int:=bif (decide (a1<a0)) then ((getI p0 a1).bind λa2=>(getI p0 a0).bind λa3=>bif (sEq a2.Name a3.Name) then (some 5) else ((ck (a1+1)).bind λa4=>k6 a4)) else (Nb F p0 a0 k3)
def G5 (F:Nat) (p0:List zN) (a0:Int) (k3:Int->Option Int):Nat->Int->Option Int
  | 0,_=>none
  | n+1,a1=>Kg F p0 a0 k3 (G5 F p0 a0 k3 n) a1
def N9 (F:Nat) (p0:List zN) (k3:Int->Option Int) (a0:Int):Option Int:=bif (decide (a0<(p0.length:Int))) then ((getI p0 a0).bind λa1=>(Re F a1.Name).bind λa3=>bif (!a3) then (some 10) else ((getI p0 a0).bind λa2=>(Tl F a2.Name).bind λa4=>bif a4 then (some 10) else (G5 F p0 a0 k3 F 0))) else (Th)
def G4 (F:Nat) (p0:List zN):Nat->Int->Option Int
  | 0,_=>none
  | n+1,a0=>N9 F p0 (G4 F p0 n) a0
def Tg (F:Nat) (p0:List zN):Option Int:=G4 F p0 F 0
def Na (F:Nat) (p0:List zN) (k7:Int->Int->Option Int) (a3:Int) (a0:Int):Option Int:=bif (decide (a0<(p0.length:Int))) then ((getI p0 a0).bind λa2=>(E3 F a2.When 300).bind λa5=>(ck (a3+a5)).bind λa1=>bif (decide (a1>300)) then (some 9) else ((ck (a0+1)).bind λa4=>k7 a1 a4)) else (Tg F p0)
def Nc (F:Nat) (p0:List zN):Nat->Int->Int->Option Int
  | 0,_,_=>none
  | n+1,a0,a1=>Na F p0 (Nc F p0 n) a0 a1
def N8 (F:Nat) (p0:List zN):Option Int:=bif (decide ((p0.length:Int)>32)) then (some 9) else (Nc F p0 F 0 0)
def Qh (p0:zF) (a0:Int):Option Bool:=some (bif (decide ((p0.Rays.length:Int)<=16)) then (decide (a0<=60)) else false)
def My (p0:zF) (k2:Int->Int->Option Bool) (a1:Int) (a0:Int):Option Bool:=bif (decide (a0<(p0.Rays.length:Int))) then ((getI p0.Rays a0).bind λa2=>(ck (a0+1)).bind λa3=>k2 (IntKind.i64.wrap (a1+(a2.length:Int))) a3) else (Qh p0 a1)
def Mz (p0:zF):Nat->Int->Int->Option Bool
  | 0,_,_=>none
  | n+1,a0,a1=>My p0 (Mz p0 n) a0 a1
def Tw (F:Nat) (p0:zF):Option Bool:=Mz p0 F 0 0
def Lt (F:Nat) (p0:zP):Option Int:=(Re F p0.Name).bind λy2=>bif (!y2) then (some 10) else (bif (bif (bif (bif (bif (bif (bif (!(Ao p0.X (-1048576) 1048576)) then true else (!(Ao p0.Y (-1048576) 1048576))) then true else (!(Ao p0.Z 0 20000))) then true else (!(Ao p0.Rose 1 90))) then true else (!(Ao p0.Gates 1 200))) then true else (!(Ao p0.Step 50 2000))) then true else (!(Ao p0.Width 0 8))) then (some 3) else (some 0))
def Ei (p0:zC) (p1:Int) (p2:Int):Bool:=bif (bif (decide (p0.Lo<=p0.Hi)) then (decide (p0.Lo>=p1)) else false) then (decide (p0.Hi<=p2)) else false
def N7 (F:Nat) (p0:zC):Option Bool:=(gd (((Ao p0.Lo (-32768) 32767)==true&&true)) (ck (p0.Lo+65536)) 0).bind λx2=>(gd (((Ao p0.Lo (-32768) 32767)==true&&true)) (ck (x2-1)) 0).bind λx3=>some (bif (Ao p0.Lo (-32768) 32767) then (Ao p0.Hi p0.Lo x3) else false)
def Lu (F:Nat) (p0:zD):Option Int:=bif (bif (bif (p0.Kind != 1) then (p0.Kind != 2) else false) then (p0.Kind != 3) else false) then (some 2) else (bif (!(Ei p0.Power 0 1073741824)) then (some 3) else (bif (p0.Kind==1) then (bif (bif (bif (bif (bif (bif (bif (p0.Power.Lo != 0) then true else (!(((p0.Steps.1.Lo:Int)==0)&&(((p0.Steps.1.Hi:Int)==0)&&true)))) then true else (!(((p0.Steps.2.Lo:Int)==0)&&(((p0.Steps.2.Hi:Int)==0)&&true)))) then true else (p0.Spread != 0)) then true else (!(((p0.Ratio.Lo:Int)==0)&&(((p0.Ratio.Hi:Int)==0)&&true)))) then true else (!(((p0.Match.Lo:Int)==0)&&(((p0.Match.Hi:Int)==0)&&true)))) then true else (!(((p0.Turn.Lo:Int)==0)&&(((p0.Turn.Hi:Int)==0)&&true)))) then (some 3) else (some 0)) else (bif (bif (bif (bif (decide (p0.Power.Lo<1)) then true else (!(Ei p0.Ratio 0 1000000))) then true else (!(Ei p0.Match 0 1000))) then true else (!(Ao p0.Spread 0 65535))) then (some 3) else (bif (p0.Kind==2) then (bif (bif (bif (!(((p0.Steps.1.Lo:Int)==0)&&(((p0.Steps.1.Hi:Int)==0)&&true))) then true else (!(((p0.Steps.2.Lo:Int)==0)&&(((p0.Steps.2.Hi:Int)==0)&&true)))) then true else (!(((p0.Turn.Lo:Int)==0)&&(((p0.Turn.Hi:Int)==0)&&true)))) then (some 3) else (some 0)) else ((N7 F (zC.mk p0.Steps.1.Lo p0.Steps.1.Hi)).bind λy4=>(gd (((!y4)==false&&true)) (N7 F (zC.mk p0.Steps.2.Lo p0.Steps.2.Hi)) default).bind λy5=>(gd (((bif (!y4) then true else (!y5))==false&&true)) (N7 F p0.Turn) default).bind λy6=>bif (bif (bif (!y4) then true else (!y5)) then true else (!y6)) then (some 3) else (some 0))))))
def Pd:Option Int:=some 0
def K4 (a0:Int) (k3:Int->Option Int):Option Int:=(ck (a0+1)).bind λa1=>k3 a1
def Dx (F:Nat) (p0:zF) (a1:Int) (k3:Int->Option Int) (k5:Int->Option Int) (a2:Int):Option Int:=(getI p0.Rays a1).bind λa4=>bif (decide (a2<(a4.length:Int))) then ((getI p0.Rays a1).bind λa5=>(getI a5 a2).bind λa0=>(Lu F (zD.mk a0.Kind a0.Power ((zC.mk a0.Steps.1.Lo a0.Steps.1.Hi),(zC.mk a0.Steps.2.Lo a0.Steps.2.Hi)) a0.Spread a0.Ratio a0.Match a0.Turn)).bind λa3=>bif (a3 != 0) then (some a3) else ((ck (a2+1)).bind λa6=>k5 a6)) else (K4 a1 k3)
def Dz (F:Nat) (p0:zF) (a0:Int) (k3:Int->Option Int):Nat->Int->Option Int
  | 0,_=>none
  | n+1,a1=>Dx F p0 a0 k3 (Dz F p0 a0 k3 n) a1
def Dw (F:Nat) (p0:zF) (k3:Int->Option Int) (a0:Int):Option Int:=bif (decide (a0<(p0.Rays.length:Int))) then (Dz F p0 a0 k3 F 0) else (Pd)
def D5 (F:Nat) (p0:zF):Nat->Int->Option Int
  | 0,_=>none
  | n+1,a0=>Dw F p0 (D5 F p0 n) a0
def K3 (F:Nat) (p0:zF):Option Int:=D5 F p0 F 0
def Dy (F:Nat) (p0:zF) (k6:Int->Option Int) (a0:Int):Option Int:=bif (decide (a0<(p0.Rays.length:Int))) then ((getI p0.Rays a0).bind λa1=>bif ((a1.length:Int) != p0.Site.Gates) then (some 11) else ((ck (a0+1)).bind λa2=>k6 a2)) else (K3 F p0)
def E0 (F:Nat) (p0:zF):Nat->Int->Option Int
  | 0,_=>none
  | n+1,a0=>Dy F p0 (E0 F p0 n) a0
def Ej (F:Nat) (p0:zF):Option Int:=(Lt F p0.Site).bind λy6=>bif (y6 != 0) then (some y6) else (bif (bif (!(Ao p0.Tilt 0 256)) then true else (!(Ao p0.Time 0 4294967296))) then (some 3) else ((ck (4*p0.Site.Rose)).bind λx7=>bif ((p0.Rays.length:Int) != x7) then (some 11) else (E0 F p0 F 0)))
def Rt:Option Bool:=some false
def Pj (p0:Int) (p1:Int) (p3:Int) (p5:Int) (k2:Int->Option Bool) (a0:Int):Option Bool:=bif (decide (a0<=p5)) then ((ck (p1+a0)).bind λa1=>(Wr a1 p0).bind λa2=>(ck (a2+p0)).bind λa3=>(Wr a3 p0).bind λa4=>bif (a4==p3) then (some true) else ((ck (a0+1)).bind λa5=>k2 a5)) else (Rt)
def Pk (p0:Int) (p1:Int) (p3:Int) (p5:Int):Nat->Int->Option Bool
  | 0,_=>none
  | n+1,a0=>Pj p0 p1 p3 p5 (Pk p0 p1 p3 p5 n) a0
def Tk (F:Nat) (p0:Int) (p1:Int) (p2:Int) (p3:Int) (p4:Int) (p5:Int) (p6:Int):Option Bool:=(gd (((bif (p1==p3) then (p2==p4) else false)==false&&true)) (ck (p2+p6)) 0).bind λx1=>(gd (((bif (bif (p1==p3) then (p2==p4) else false) then true else (decide (p4>x1)))==false&&true)) (ck (p2-p6)) 0).bind λx2=>bif (bif (bif (bif (p1==p3) then (p2==p4) else false) then true else (decide (p4>x1))) then true else (decide (p4<x2))) then (some false) else (Pk p0 p1 p3 p5 F (IntKind.i64.wrap (0-p5)))
def P5 (a0:Int) (a1:Int) (a2:Int):Option (Int×Int×Int):=some (a0,a1,a2)
def P6 (a0:Int) (k2:Int->Int->Int->Int->Option (Int×Int×Int)) (a1:Int) (a2:Int) (a3:Int):Option (Int×Int×Int):=(ck (a0+1)).bind λa4=>k2 a1 a2 a3 a4
def Fw (a0:Int) (k4:Int->Int->Int->Int->Option (Int×Int×Int)) (a1:Int) (a2:Int) (a3:Int):Option (Int×Int×Int):=(ck (a0+1)).bind λa4=>k4 a1 a2 a3 a4
def Ks (p0:List (List Int)) (a6:Int) (a1:Int) (a0:Int) (k4:Int->Int->Int->Int->Option (Int×Int×Int)) (a2:Int) (a3:Int):Option (Int×Int×Int):=(getI p0 a6).bind λa4=>(getI a4 a0).bind λa5=>bif (a5 != 3) then ((ck (a1+1)).bind λa7=>Fw a0 k4 a3 a7 a2) else (Fw a0 k4 a3 a1 a2)
def Kr (F:Nat) (p0:List (List Int)) (p1:Int) (p2:Int) (p3:Int) (p4:Int) (a0:Int) (k2:Int->Int->Int->Int->Option (Int×Int×Int)) (k4:Int->Int->Int->Int->Option (Int×Int×Int)) (a2:Int) (a3:Int) (a4:Int) (a1:Int):Option (Int×Int×Int):=(getI p0 a0).bind λa6=>bif (decide (a1<(a6.length:Int))) then ((Tk F (p0.length:Int) p1 p2 a0 a1 p3 p4).bind λaA=>bif (!aA) then (Fw a1 k4 a2 a3 a4) else ((ck (a4+1)).bind λa5=>(getI p0 a0).bind λa7=>(getI a7 a1).bind λa8=>bif (a8==1) then ((ck (a2+1)).bind λa9=>Ks p0 a0 a3 a1 k4 a5 a9) else (Ks p0 a0 a3 a1 k4 a5 a2))) else (P6 a0 k2 a2 a3 a4)
def Kt (F:Nat) (p0:List (List Int)) (p1:Int) (p2:Int) (p3:Int) (p4:Int) (a0:Int) (k2:Int->Int->Int->Int->Option (Int×Int×Int)):Nat->Int->Int->Int->Int->Option (Int×Int×Int)
  | 0,_,_,_,_=>none
  | n+1,a1,a2,a3,a4=>Kr F p0 p1 p2 p3 p4 a0 k2 (Kt F p0 p1 p2 p3 p4 a0 k2 n) a1 a2 a3 a4
def Kq (F:Nat) (p0:List (List Int)) (p1:Int) (p2:Int) (p3:Int) (p4:Int) (k2:Int->Int->Int->Int->Option (Int×Int×Int)) (a0:Int) (a1:Int) (a2:Int) (a3:Int):Option (Int×Int×Int):=bif (decide (a3<(p0.length:Int))) then (Kt F p0 p1 p2 p3 p4 a3 k2 F a0 a1 a2 0) else (P5 a0 a1 a2)
def Hj (F:Nat) (p0:List (List Int)) (p1:Int) (p2:Int) (p3:Int) (p4:Int):Nat->Int->Int->Int->Int->Option (Int×Int×Int)
  | 0,_,_,_,_=>none
  | n+1,a0,a1,a2,a3=>Kq F p0 p1 p2 p3 p4 (Hj F p0 p1 p2 p3 p4 n) a0 a1 a2 a3
def M7 (F:Nat) (p0:List (List Int)) (p1:Int) (p2:Int) (p3:Int) (p4:Int):Option (Int×Int×Int):=Hj F p0 p1 p2 p3 p4 F 0 0 0 0
def Sv (F:Nat) (p0:zG) (p1:zF) (p2:Int) (p3:Int):Option Int:=bif (p0.Op==14) then (some p0.Value_) else (bif (p0.Op==18) then ((getI p1.Rays p2).bind λa0=>(getI a0 p3).bind λa1=>some a1.Spread) else (bif (p0.Op==21) then ((getI p1.Rays p2).bind λa2=>(getI a2 p3).bind λa3=>some a3.Kind) else (bif (p0.Op==22) then (some p2) else (bif (p0.Op==23) then (some p3) else (bif (p0.Op==24) then (some p1.Tilt) else (some 0))))))
def F3 (p0:zG) (a0:zD) (a1:Int) (a2:Int):Option zK:=bif (bif (bif (bif (a0.Kind==1) then (decide (p0.Op>=16)) else false) then (decide (p0.Op<=20)) else false) then true else (bif (a0.Kind != 3) then (bif (p0.Op==19) then true else (p0.Op==20)) else false)) then (some (zK.mk (zC.mk 0 0) false)) else (some (zK.mk (zC.mk a1 a2) true))
def S9 (F:Nat) (p0:zG) (p1:zF) (p2:Int) (p3:Int):Option zK:=(getI p1.Rays p2).bind λa2=>(getI a2 p3).bind λa0=>(Sv F p0 p1 p2 p3).bind λa1=>bif (p0.Op==15) then (F3 p0 a0 a0.Power.Lo a0.Power.Hi) else (bif (p0.Op==16) then (F3 p0 a0 a0.Ratio.Lo a0.Ratio.Hi) else (bif (p0.Op==17) then (F3 p0 a0 a0.Match.Lo a0.Match.Hi) else (bif (p0.Op==19) then (F3 p0 a0 a0.Turn.Lo a0.Turn.Hi) else (bif (p0.Op==20) then (F3 p0 a0 a0.Steps.1.Lo a0.Steps.1.Hi) else (F3 p0 a0 a1 a1)))))
def J4 (F:Nat) (p0:Int):Option Int:=(ck (4-p0)).bind λx1=>some x1
def Gf (a0:Bool) (a1:Bool):Option Int:=bif a1 then (some 1) else (bif a0 then (some 3) else (some 2))
def C3 (p0:Int) (p1:zK) (p2:zK) (a0:Bool) (a1:Bool):Option Int:=bif (p0==12) then (Gf (bif (decide (p1.Span.Hi<p2.Span.Lo)) then true else (decide (p2.Span.Hi<p1.Span.Lo))) (bif (p1.Span.Lo==p1.Span.Hi) then (((p1.Span.Lo:Int)==p2.Span.Lo)&&(((p1.Span.Hi:Int)==p2.Span.Hi)&&true)) else false)) else (Gf a0 a1)
def Fv (F:Nat) (self_:Int->zK->zK->Option Int) (p0:Int) (p1:zK) (p2:zK):Option Int:=bif (bif (!p1.Has) then true else (!p2.Has)) then (some 3) else (bif (p0==10) then ((self_ 8 p2 p1).bind λa0=>some a0) else (bif (p0==11) then ((self_ 9 p2 p1).bind λa1=>some a1) else (bif (p0==13) then ((self_ 12 p1 p2).bind λa2=>(J4 F a2).bind λa3=>some a3) else (bif (p0==9) then (C3 p0 p1 p2 (decide (p1.Span.Lo>p2.Span.Hi)) (decide (p1.Span.Hi<=p2.Span.Lo))) else (C3 p0 p1 p2 (decide (p1.Span.Lo>=p2.Span.Hi)) (decide (p1.Span.Hi<p2.Span.Lo)))))))
def Cx:Nat->Int->zK->zK->Option Int
  | 0,_,_,_=>none
  | F+1,p0,p1,p2=>Fv F (Cx F) p0 p1 p2
abbrev Fx:=zG->zF->Option (List (List Int))
abbrev Cw:=zG->zF->Option (List (List zK))
def P3 (a0:List (List Int)):Option (List (List Int)):=some a0
def P4 (a1:Int) (k3:List (List Int)->Int->Option (List (List Int))) (a0:List (List Int)):Option (List (List Int)):=(ck (a1+1)).bind λa2=>k3 a0 a2
def Ko (a0:List (List Int)) (a3:Int) (k3:List (List Int)->Int->Option (List (List Int))) (a1:List Int):Option (List (List Int)):=(apd 24 a0 ([a1])).bind λa2=>P4 a3 k3 a2
def C2 (a0:List Int) (a2:Int) (k6:List Int->Int->Option (List (List Int))) (a3:Int):Option (List (List Int)):=(apd 8 a0 ([a3])).bind λa1=>(ck (a2+1)).bind λa4=>k6 a1 a4
def D1 (F:Nat) (p0:zG) (p1:zF) (a3:List (List (List Int))) (a5:List (List (List zK))) (aA:List (List Int)) (a2:Int) (k3:List (List Int)->Int->Option (List (List Int))) (k6:List Int->Int->Option (List (List Int))) (a1:List Int) (a0:Int):Option (List (List Int)):=(getI p1.Rays a2).bind λaB=>bif (decide (a0<(aB.length:Int))) then (bif (p0.Op==1) then (C2 a1 a0 k6 1) else (bif (p0.Op==3) then ((getI a3 0).bind λaC=>(getI aC a2).bind λaD=>(getI aD a0).bind λaE=>(J4 F aE).bind λaU=>C2 a1 a0 k6 aU) else (bif (p0.Op==4) then ((getI a3 0).bind λaF=>(getI aF a2).bind λaG=>(getI aG a0).bind λa6=>(getI a3 1).bind λaH=>(getI aH a2).bind λaI=>(getI aI a0).bind λa7=>C2 a1 a0 k6 (if a7>a6 then a7 else a6)) else (bif (p0.Op==5) then ((getI a3 0).bind λaJ=>(getI aJ a2).bind λaK=>(getI aK a0).bind λa8=>(getI a3 1).bind λaL=>(getI aL a2).bind λaM=>(getI aM a0).bind λa9=>C2 a1 a0 k6 (if a9<a8 then a9 else a8)) else (bif (bif (p0.Op==6) then true else (p0.Op==7)) then ((getI a3 0).bind λaN=>(M7 F aN a2 a0 p0.Rays p0.Gates).bind λa4=>bif (bif (bif (p0.Op==6) then (decide (a4.1>0)) else false) then true else (bif (p0.Op==7) then (a4.1==a4.2.2) else false)) then (C2 a1 a0 k6 1) else (bif (bif (bif (p0.Op==6) then (a4.2.1==0) else false) then true else (bif (p0.Op==7) then (decide (a4.2.1<a4.2.2)) else false)) then (C2 a1 a0 k6 3) else (C2 a1 a0 k6 2))) else (bif (decide (p0.Op>=8)) then ((getI a5 0).bind λaO=>(getI aO a2).bind λaP=>(getI aP a0).bind λaQ=>(getI a5 1).bind λaR=>(getI aR a2).bind λaS=>(getI aS a0).bind λaT=>(Cx F p0.Op aQ aT).bind λaV=>C2 a1 a0 k6 aV) else (C2 a1 a0 k6 3))))))) else (Ko aA a2 k3 a1)
def Hh (F:Nat) (p0:zG) (p1:zF) (a1:List (List (List Int))) (a2:List (List (List zK))) (a0:List (List Int)) (a3:Int) (k3:List (List Int)->Int->Option (List (List Int))):Nat->List Int->Int->Option (List (List Int))
  | 0,_,_=>none
  | n+1,a4,a5=>D1 F p0 p1 a1 a2 a0 a3 k3 (Hh F p0 p1 a1 a2 a0 a3 k3 n) a4 a5
def Kn (F:Nat) (p0:zG) (p1:zF) (a2:List (List (List Int))) (a3:List (List (List zK))) (k3:List (List Int)->Int->Option (List (List Int))) (a0:List (List Int)) (a1:Int):Option (List (List Int)):=bif (decide (a1<(p1.Rays.length:Int))) then (Hh F p0 p1 a2 a3 a0 a1 k3 F ([]) 0) else (P3 a0)
def Hg (F:Nat) (p0:zG) (p1:zF) (a0:List (List (List Int))) (a1:List (List (List zK))):Nat->List (List Int)->Int->Option (List (List Int))
  | 0,_,_=>none
  | n+1,a2,a3=>Kn F p0 p1 a0 a1 (Hg F p0 p1 a0 a1 n) a2 a3
def P2 (F:Nat) (p0:zG) (p1:zF) (a0:List (List (List Int))) (a1:List (List (List zK))):Option (List (List Int)):=Hg F p0 p1 a0 a1 F ([]) 0
def Do (a2:Int) (k8:List (List (List Int))->List (List (List zK))->Int->Option (List (List Int))) (a0:List (List (List Int))) (a1:List (List (List zK))):Option (List (List Int)):=(ck (a2+1)).bind λa3=>k8 a0 a1 a3
def B3 (F:Nat) (s82_:Fx) (s85_:Cw) (p0:zG) (p1:zF) (k8:List (List (List Int))->List (List (List zK))->Int->Option (List (List Int))) (a1:List (List (List Int))) (a2:List (List (List zK))) (a0:Int):Option (List (List Int)):=bif (decide (a0<(p0.Args.length:Int))) then (bif (decide (p0.Op>=8)) then ((getI p0.Args a0).bind λa5=>(s85_ a5 p1).bind λa7=>(apd 24 a2 ([a7])).bind λa3=>Do a0 k8 a1 a3) else ((getI p0.Args a0).bind λa6=>(s82_ a6 p1).bind λa8=>(apd 24 a1 ([a8])).bind λa4=>Do a0 k8 a4 a2)) else (P2 F p0 p1 a1 a2)
def Kp (F:Nat) (s82_:Fx) (s85_:Cw) (p0:zG) (p1:zF):Nat->List (List (List Int))->List (List (List zK))->Int->Option (List (List Int))
  | 0,_,_,_=>none
  | n+1,a0,a1,a2=>B3 F s82_ s85_ p0 p1 (Kp F s82_ s85_ p0 p1 n) a0 a1 a2
def Ua (F:Nat) (s82_:Fx) (s85_:Cw) (p0:zG) (p1:zF):Option (List (List Int)):=Kp F s82_ s85_ p0 p1 F ([]) ([]) 0
def Mp (a0:List (List zK)):Option (List (List zK)):=some a0
def Mq (a1:Int) (k4:List (List zK)->Int->Option (List (List zK))) (a0:List (List zK)):Option (List (List zK)):=(ck (a1+1)).bind λa2=>k4 a0 a2
def Ji (a0:List (List zK)) (a3:Int) (k4:List (List zK)->Int->Option (List (List zK))) (a1:List zK):Option (List (List zK)):=(apd 24 a0 ([a1])).bind λa2=>Mq a3 k4 a2
def Dc (a1:List zK) (a3:Int) (k7:List zK->Int->Option (List (List zK))) (a4:Int) (a5:Int) (a0:Bool):Option (List (List zK)):=(apd 24 a1 ([(zK.mk (zC.mk a4 a5) a0)])).bind λa2=>(ck (a3+1)).bind λa6=>k7 a2 a6
def Db (F:Nat) (p0:zG) (p1:zF) (a9:List (List Int)) (a6:List (List (List zK))) (a8:List (List zK)) (a4:Int) (k4:List (List zK)->Int->Option (List (List zK))) (k7:List zK->Int->Option (List (List zK))) (a1:List zK) (a0:Int):Option (List (List zK)):=(getI p1.Rays a4).bind λaA=>bif (decide (a0<(aA.length:Int))) then (bif (p0.Op==25) then ((M7 F a9 a4 a0 p0.Rays p0.Gates).bind λa7=>Dc a1 a0 k7 a7.1 a7.2.1 true) else (bif (decide (p0.Op>=26)) then ((getI a6 0).bind λaB=>(getI aB a4).bind λaC=>(getI aC a0).bind λa2=>(getI a6 1).bind λaD=>(getI aD a4).bind λaE=>(getI aE a0).bind λa3=>bif (bif (bif a2.Has then a3.Has else false) then (p0.Op==26) else false) then ((ck (a2.Span.Lo+a3.Span.Lo)).bind λaF=>(ck (a2.Span.Hi+a3.Span.Hi)).bind λaG=>Dc a1 a0 k7 aF aG true) else (bif (bif a2.Has then a3.Has else false) then ((ck (a2.Span.Lo-a3.Span.Hi)).bind λaH=>(ck (a2.Span.Hi-a3.Span.Lo)).bind λaI=>Dc a1 a0 k7 aH aI true) else (Dc a1 a0 k7 0 0 false))) else ((S9 F p0 p1 a4 a0).bind λa5=>Dc a1 a0 k7 a5.Span.Lo a5.Span.Hi a5.Has))) else (Ji a8 a4 k4 a1)
def Ge (F:Nat) (p0:zG) (p1:zF) (a2:List (List Int)) (a1:List (List (List zK))) (a0:List (List zK)) (a3:Int) (k4:List (List zK)->Int->Option (List (List zK))):Nat->List zK->Int->Option (List (List zK))
  | 0,_,_=>none
  | n+1,a4,a5=>Db F p0 p1 a2 a1 a0 a3 k4 (Ge F p0 p1 a2 a1 a0 a3 k4 n) a4 a5
def Jh (F:Nat) (p0:zG) (p1:zF) (a3:List (List Int)) (a2:List (List (List zK))) (k4:List (List zK)->Int->Option (List (List zK))) (a0:List (List zK)) (a1:Int):Option (List (List zK)):=bif (decide (a1<(p1.Rays.length:Int))) then (Ge F p0 p1 a3 a2 a0 a1 k4 F ([]) 0) else (Mp a0)
def Gd (F:Nat) (p0:zG) (p1:zF) (a1:List (List Int)) (a0:List (List (List zK))):Nat->List (List zK)->Int->Option (List (List zK))
  | 0,_,_=>none
  | n+1,a2,a3=>Jh F p0 p1 a1 a0 (Gd F p0 p1 a1 a0 n) a2 a3
def Mn (F:Nat) (p0:zG) (p1:zF) (a1:List (List Int)) (a0:List (List (List zK))):Option (List (List zK)):=Gd F p0 p1 a1 a0 F ([]) 0
def Bx (F:Nat) (s85_:Cw) (p0:zG) (p1:zF) (a3:List (List Int)) (k9:List (List (List zK))->Int->Option (List (List zK))) (a1:List (List (List zK))) (a0:Int):Option (List (List zK)):=bif (bif (decide (a0<(p0.Args.length:Int))) then (decide (p0.Op>=26)) else false) then ((getI p0.Args a0).bind λa4=>(s85_ a4 p1).bind λa6=>(apd 24 a1 ([a6])).bind λa2=>(ck (a0+1)).bind λa5=>k9 a2 a5) else (Mn F p0 p1 a3 a1)
def Jj (F:Nat) (s85_:Cw) (p0:zG) (p1:zF) (a0:List (List Int)):Nat->List (List (List zK))->Int->Option (List (List zK))
  | 0,_,_=>none
  | n+1,a1,a2=>Bx F s85_ p0 p1 a0 (Jj F s85_ p0 p1 a0 n) a1 a2
def F2 (F:Nat) (s85_:Cw) (p0:zG) (p1:zF) (a0:List (List Int)):Option (List (List zK)):=Jj F s85_ p0 p1 a0 F ([]) 0
def F1 (F:Nat) (s82_:Fx) (s85_:Cw) (p0:zG) (p1:zF):Option (List (List zK)):=bif (p0.Op==25) then ((getI p0.Args 0).bind λa0=>(s82_ a0 p1).bind λa1=>F2 F s85_ p0 p1 a1) else (F2 F s85_ p0 p1 ([]))
def C9:Nat->Fx×Cw
  | 0=>(λ_ _=>none,λ_ _=>none)
  | F+1=>(Ua F (C9 F).1 (C9 F).2,F1 F (C9 F).1 (C9 F).2)
def D6 (F:Nat):Fx:=(C9 F).1
def C1 (F:Nat):Cw:=(C9 F).2
def Qq (a0:List (List zM)):Option ((List (List zM))×Int):=some (a0,0)
def Qr (a1:Int) (k4:Int->List (List zM)->Option ((List (List zM))×Int)) (a0:List (List zM)):Option ((List (List zM))×Int):=(ck (a1+1)).bind λa2=>k4 a2 a0
def Nj (a3:Int) (a2:List (List zM)) (k4:Int->List (List zM)->Option ((List (List zM))×Int)) (a0:List zM):Option ((List (List zM))×Int):=(apd 24 a2 ([a0])).bind λa1=>Qr a3 k4 a1
def Qs (a1:Int) (k7:List zM->Int->Option ((List (List zM))×Int)) (a0:List zM):Option ((List (List zM))×Int):=(ck (a1+1)).bind λa2=>k7 a0 a2
def Nk (a0:List zM) (a3:Int) (k7:List zM->Int->Option ((List (List zM))×Int)) (a4:Int) (a1:List Int):Option ((List (List zM))×Int):=(apd 32 a0 ([(zM.mk a4 a1)])).bind λa2=>Qs a3 k7 a2
def Lx (a2:Int) (a0:Int->List Int->Int->Option ((List (List zM))×Int)) (a3:Int) (a1:List Int):Option ((List (List zM))×Int):=(ck (a2+1)).bind λa4=>a0 a3 a1 a4
def Ly (a5:List (List (List Int))) (aA:Int) (a9:Int) (a2:List Int) (a0:Int) (a1:Int->List Int->Int->Option ((List (List zM))×Int)) (a3:Int):Option ((List (List zM))×Int):=(getI a5 a0).bind λa6=>(getI a6 aA).bind λa7=>(getI a7 a9).bind λa8=>bif (a8==2) then ((apd 8 a2 ([a0])).bind λa4=>Lx a0 a1 a3 a4) else (Lx a0 a1 a3 a2)
def Lv (p0:List zN) (a3:List (List (List Int))) (a5:Int) (a7:List zM) (a1:Int) (k7:List zM->Int->Option ((List (List zM))×Int)) (a6:Int->List Int->Int->Option ((List (List zM))×Int)) (a4:Int) (a2:List Int) (a0:Int):Option ((List (List zM))×Int):=bif (bif (decide (a0<(p0.length:Int))) then (decide (a4<0)) else false) then ((getI a3 a0).bind λa8=>(getI a8 a5).bind λa9=>(getI a9 a1).bind λaA=>bif (aA==1) then (Ly a3 a5 a1 a2 a0 a6 a0) else (Ly a3 a5 a1 a2 a0 a6 a4)) else (Nk a7 a1 k7 a4 a2)
def Jb (p0:List zN) (a1:List (List (List Int))) (a3:Int) (a0:List zM) (a2:Int) (k7:List zM->Int->Option ((List (List zM))×Int)):Nat->Int->List Int->Int->Option ((List (List zM))×Int)
  | 0,_,_,_=>none
  | n+1,a5,a4,a6=>Lv p0 a1 a3 a0 a2 k7 (Jb p0 a1 a3 a0 a2 k7 n) a5 a4 a6
def Ni (F:Nat) (p0:List zN) (p1:zF) (a3:List (List (List Int))) (a0:Int) (a4:List (List zM)) (k4:Int->List (List zM)->Option ((List (List zM))×Int)) (k7:List zM->Int->Option ((List (List zM))×Int)) (a1:List zM) (a2:Int):Option ((List (List zM))×Int):=(getI p1.Rays a0).bind λa5=>bif (decide (a2<(a5.length:Int))) then (Jb p0 a3 a0 a1 a2 k7 F (-1) ([]) 0) else (Nj a0 a4 k4 a1)
def J3 (F:Nat) (p0:List zN) (p1:zF) (a0:List (List (List Int))) (a2:Int) (a1:List (List zM)) (k4:Int->List (List zM)->Option ((List (List zM))×Int)):Nat->List zM->Int->Option ((List (List zM))×Int)
  | 0,_,_=>none
  | n+1,a3,a4=>Ni F p0 p1 a0 a2 a1 k4 (J3 F p0 p1 a0 a2 a1 k4 n) a3 a4
def Nh (F:Nat) (p0:List zN) (p1:zF) (a2:List (List (List Int))) (k4:Int->List (List zM)->Option ((List (List zM))×Int)) (a1:Int) (a0:List (List zM)):Option ((List (List zM))×Int):=bif (decide (a1<(p1.Rays.length:Int))) then (J3 F p0 p1 a2 a1 a0 k4 F ([]) 0) else (Qq a0)
def Kl (F:Nat) (p0:List zN) (p1:zF) (a0:List (List (List Int))):Nat->Int->List (List zM)->Option ((List (List zM))×Int)
  | 0,_,_=>none
  | n+1,a2,a1=>Nh F p0 p1 a0 (Kl F p0 p1 a0 n) a2 a1
def Qp (F:Nat) (p0:List zN) (p1:zF) (a0:List (List (List Int))):Option ((List (List zM))×Int):=Kl F p0 p1 a0 F 0 ([])
def Lw (F:Nat) (p0:List zN) (p1:zF) (a2:List (List (List Int))->Int->Option ((List (List zM))×Int)) (a1:List (List (List Int))) (a0:Int):Option ((List (List zM))×Int):=bif (decide (a0<(p0.length:Int))) then ((getI p0 a0).bind λa4=>(D6 F a4.When p1).bind λa6=>(apd 24 a1 ([a6])).bind λa3=>(ck (a0+1)).bind λa5=>a2 a3 a5) else (Qp F p0 p1 a1)
def Lz (F:Nat) (p0:List zN) (p1:zF):Nat->List (List (List Int))->Int->Option ((List (List zM))×Int)
  | 0,_,_=>none
  | n+1,a0,a1=>Lw F p0 p1 (Lz F p0 p1 n) a0 a1
def J2 (F:Nat) (p0:List zN) (p1:zF) (a0:Int):Option ((List (List zM))×Int):=bif (a0 != 0) then (some (([]:(List (List zM))),a0)) else (Lz F p0 p1 F ([]) 0)
def Ha (F:Nat) (p0:List zN) (p1:zF):Option ((List (List zM))×Int):=(N8 F p0).bind λa0=>bif (a0==0) then ((Ej F p1).bind λa1=>J2 F p0 p1 a1) else (J2 F p0 p1 a0)
def Cl (F:Nat) (p0:List zD):Option (List zD):=(apd 112 ([]:List zD) p0).bind λl5=>some l5
def Ru (p1:zF) (a0:List (List zD)):Option (zF×Int):=some ((zF.mk p1.Site p1.Tilt p1.Time a0),0)
def Rv (a1:Int) (k2:Int->List (List zD)->Option (zF×Int)) (a0:List (List zD)):Option (zF×Int):=(ck (a1+1)).bind λa2=>k2 a2 a0
def Pp (a1:Int) (k4:Int->List (List zD)->Option (zF×Int)) (a0:List (List zD)):Option (zF×Int):=(ck (a1+1)).bind λa2=>k4 a2 a0
def Po (a9:(List (List zL))×Int) (a2:Int) (k2:Int->List (List zD)->Option (zF×Int)) (a6:List zD) (k4:Int->List (List zD)->Option (zF×Int)) (a0:Int) (a1:List (List zD)):Option (zF×Int):=bif (decide (a0<(a6.length:Int))) then ((getI a9.1 a2).bind λa7=>(getI a7 a0).bind λa8=>bif (decide (a8.Rule>=0)) then ((getI a1 a2).bind λa3=>(getI a3 a0).bind λaA=>(L0 a3 a0 (zD.mk 1 (zC.mk 0 0) ((zC.mk 0 0),(zC.mk 0 0)) 0 (zC.mk 0 0) (zC.mk 0 0) (zC.mk 0 0))).bind λa4=>(L0 a1 a2 a4).bind λa5=>Pp a0 k4 a5) else (Pp a0 k4 a1)) else (Rv a2 k2 a1)
def Mc (a2:(List (List zL))×Int) (a1:Int) (k2:Int->List (List zD)->Option (zF×Int)) (a0:List zD):Nat->Int->List (List zD)->Option (zF×Int)
  | 0,_,_=>none
  | n+1,a4,a3=>Po a2 a1 k2 a0 (Mc a2 a1 k2 a0 n) a4 a3
def Pn (F:Nat) (p1:zF) (a4:(List (List zL))×Int) (k2:Int->List (List zD)->Option (zF×Int)) (a0:Int) (a1:List (List zD)):Option (zF×Int):=bif (decide (a0<(p1.Rays.length:Int))) then ((getI p1.Rays a0).bind λa2=>(Cl F a2).bind λa5=>(getI a1 a0).bind λa6=>(L0 a1 a0 a5).bind λa3=>Mc a4 a0 k2 a2 F 0 a3) else (Ru p1 a1)
def Mb (F:Nat) (p1:zF) (a0:(List (List zL))×Int):Nat->Int->List (List zD)->Option (zF×Int)
  | 0,_,_=>none
  | n+1,a2,a1=>Pn F p1 a0 (Mb F p1 a0 n) a2 a1
def Nm (F:Nat) (p0:List zJ) (p1:zF):Option (zF×Int):=(J6 F p0 p1).bind λa0=>bif (a0.2 != 0) then (some ((zF.mk (zP.mk ByteArray.empty 0 0 0 0 0 0 0) 0 0 ([]:(List (List zD)))),a0.2)) else ((mkI 24 (p1.Rays.length:Int) ([]:(List zD))).bind λa1=>Mb F p1 a0 F 0 a1)
def Qm (p1:zF) (a0:List (List zD)):Option (zF×Int):=some ((zF.mk p1.Site p1.Tilt p1.Time a0),0)
def Qn (a1:Int) (k2:List (List zD)->Int->Option (zF×Int)) (a0:List (List zD)):Option (zF×Int):=(ck (a1+1)).bind λa2=>k2 a0 a2
def Kh (a0:List (List zD)) (a3:Int) (k2:List (List zD)->Int->Option (zF×Int)) (a1:List zD):Option (zF×Int):=(apd 24 a0 ([a1])).bind λa2=>Qn a3 k2 a2
def Ki (a0:List zD) (a2:Int) (k5:List zD->Int->Option (zF×Int)) (a3:Int) (a4:Int) (a5:Int) (a6:Int) (a7:Int) (a8:Int) (a9:Int) (aA:Int) (aB:Int) (aC:Int) (aD:Int) (aE:Int) (aF:Int) (aG:Int):Option (zF×Int):=(apd 112 a0 ([(zD.mk a3 (zC.mk a4 a9) ((zC.mk aA aB),(zC.mk aC aD)) aE (zC.mk aF aG) (zC.mk a5 a6) (zC.mk a7 a8))])).bind λa1=>(ck (a2+1)).bind λaH=>k5 a1 aH
def Nf (p1:zF) (a9:(List (List zM))×Int) (a4:List (List zD)) (a2:Int) (k2:List (List zD)->Int->Option (zF×Int)) (k5:List zD->Int->Option (zF×Int)) (a3:List zD) (a1:Int):Option (zF×Int):=(getI p1.Rays a2).bind λa5=>bif (decide (a1<(a5.length:Int))) then ((getI p1.Rays a2).bind λa6=>(getI a6 a1).bind λa0=>(getI a9.1 a2).bind λa7=>(getI a7 a1).bind λa8=>bif (decide (a8.Rule>=0)) then (Ki a3 a1 k5 1 0 0 0 0 0 0 0 0 0 0 0 0 0) else (Ki a3 a1 k5 a0.Kind a0.Power.Lo a0.Match.Lo a0.Match.Hi a0.Turn.Lo a0.Turn.Hi a0.Power.Hi a0.Steps.1.Lo a0.Steps.1.Hi a0.Steps.2.Lo a0.Steps.2.Hi a0.Spread a0.Ratio.Lo a0.Ratio.Hi)) else (Kh a4 a2 k2 a3)
def J1 (p1:zF) (a2:(List (List zM))×Int) (a0:List (List zD)) (a1:Int) (k2:List (List zD)->Int->Option (zF×Int)):Nat->List zD->Int->Option (zF×Int)
  | 0,_,_=>none
  | n+1,a3,a4=>Nf p1 a2 a0 a1 k2 (J1 p1 a2 a0 a1 k2 n) a3 a4
def Nd (F:Nat) (p1:zF) (a2:(List (List zM))×Int) (k2:List (List zD)->Int->Option (zF×Int)) (a0:List (List zD)) (a1:Int):Option (zF×Int):=bif (decide (a1<(p1.Rays.length:Int))) then (J1 p1 a2 a0 a1 k2 F ([]) 0) else (Qm p1 a0)
def Kj (F:Nat) (p1:zF) (a0:(List (List zM))×Int):Nat->List (List zD)->Int->Option (zF×Int)
  | 0,_,_=>none
  | n+1,a1,a2=>Nd F p1 a0 (Kj F p1 a0 n) a1 a2
def L6 (F:Nat) (p0:List zN) (p1:zF):Option (zF×Int):=(Ha F p0 p1).bind λa0=>bif (a0.2 != 0) then (some ((zF.mk (zP.mk ByteArray.empty 0 0 0 0 0 0 0) 0 0 ([]:(List (List zD)))),a0.2)) else (Kj F p1 a0 F ([]) 0)
def Jw (F:Nat):Option Bool:=(L5 F).bind λa0=>some a0
def Jx (a0:Int) (k4:Int->Option Bool):Option Bool:=(ck (a0+1)).bind λa1=>k4 a1
def Gl (a4:zF×Int) (a9:zF×Int) (a2:Int) (k4:Int->Option Bool) (k6:Int->Option Bool) (a3:Int):Option Bool:=(getI a4.1.Rays a2).bind λa5=>bif (decide (a3<(a5.length:Int))) then ((getI a4.1.Rays a2).bind λa6=>(getI a6 a3).bind λa0=>(getI a9.1.Rays a2).bind λa7=>(getI a7 a3).bind λa1=>bif (!(((a0.Kind:Int)==a1.Kind)&&((((a0.Power.Lo:Int)==a1.Power.Lo)&&(((a0.Power.Hi:Int)==a1.Power.Hi)&&true))&&(((((a0.Steps.1.Lo:Int)==a1.Steps.1.Lo)&&(((a0.Steps.1.Hi:Int)==a1.Steps.1.Hi)&&true))&&((((a0.Steps.2.Lo:Int)==a1.Steps.2.Lo)&&(((a0.Steps.2.Hi:Int)==a1.Steps.2.Hi)&&true))&&true))&&(((a0.Spread:Int)==a1.Spread)&&((((a0.Ratio.Lo:Int)==a1.Ratio.Lo)&&(((a0.Ratio.Hi:Int)==a1.Ratio.Hi)&&true))&&((((a0.Match.Lo:Int)==a1.Match.Lo)&&(((a0.Match.Hi:Int)==a1.Match.Hi)&&true))&&((((a0.Turn.Lo:Int)==a1.Turn.Lo)&&(((a0.Turn.Hi:Int)==a1.Turn.Hi)&&true))&&true)))))))) then (some false) else ((ck (a3+1)).bind λa8=>k6 a8)) else (Jx a2 k4)
def Fc (a1:zF×Int) (a2:zF×Int) (a0:Int) (k4:Int->Option Bool):Nat->Int->Option Bool
  | 0,_=>none
  | n+1,a3=>Gl a1 a2 a0 k4 (Fc a1 a2 a0 k4 n) a3
def Gk (F:Nat) (a1:zF×Int) (a2:zF×Int) (k4:Int->Option Bool) (a0:Int):Option Bool:=bif (decide (a0<(a1.1.Rays.length:Int))) then ((getI a1.1.Rays a0).bind λa3=>(getI a2.1.Rays a0).bind λa4=>bif ((a3.length:Int) != (a4.length:Int)) then (some false) else (Fc a1 a2 a0 k4 F 0)) else (Jw F)
def Fb (F:Nat) (a0:zF×Int) (a1:zF×Int):Nat->Int->Option Bool
  | 0,_=>none
  | n+1,a2=>Gk F a0 a1 (Fb F a0 a1 n) a2
def Fa (F:Nat) (p0:List zN) (p1:zF):Option Bool:=(Q7 F p0).bind λa2=>(Nm F a2 p1).bind λa0=>(L6 F p0 p1).bind λa1=>bif (bif (bif (bif (bif (!((a0.1.Site.Name==a1.1.Site.Name)&&(((a0.1.Site.X:Int)==a1.1.Site.X)&&(((a0.1.Site.Y:Int)==a1.1.Site.Y)&&(((a0.1.Site.Z:Int)==a1.1.Site.Z)&&(((a0.1.Site.Rose:Int)==a1.1.Site.Rose)&&(((a0.1.Site.Gates:Int)==a1.1.Site.Gates)&&(((a0.1.Site.Step:Int)==a1.1.Site.Step)&&(((a0.1.Site.Width:Int)==a1.1.Site.Width)&&true))))))))) then true else (a0.1.Tilt != a1.1.Tilt)) then true else (a0.1.Time != a1.1.Time)) then true else ((a0.1.Rays.length:Int) != (a1.1.Rays.length:Int))) then true else (a0.2 != a1.2)) then (some false) else (Fb F a0 a1 F 0)
def Jy (a0:Int) (k7:Int->Option Bool):Option Bool:=(ck (a0+1)).bind λa1=>k7 a1
def Gn (F:Nat) (a2:(List (List zL))×Int) (a5:(List (List zM))×Int) (a0:Int) (k7:Int->Option Bool) (k9:Int->Option Bool) (a1:Int):Option Bool:=(getI a2.1 a0).bind λa6=>bif (decide (a1<(a6.length:Int))) then ((getI a2.1 a0).bind λa7=>(getI a7 a1).bind λa3=>(getI a5.1 a0).bind λa8=>(getI a8 a1).bind λa4=>(getI a2.1 a0).bind λa9=>(getI a9 a1).bind λaA=>(getI a5.1 a0).bind λaB=>(getI aB a1).bind λaC=>(gd (((a3.Rule != a4.Rule)==false&&true)) (Jq F aA.Doubts aC.Doubts) default).bind λaE=>bif (bif (a3.Rule != a4.Rule) then true else (!aE)) then (some false) else ((ck (a1+1)).bind λaD=>k9 aD)) else (Jy a0 k7)
def Fe (F:Nat) (a2:(List (List zL))×Int) (a1:(List (List zM))×Int) (a0:Int) (k7:Int->Option Bool):Nat->Int->Option Bool
  | 0,_=>none
  | n+1,a3=>Gn F a2 a1 a0 k7 (Fe F a2 a1 a0 k7 n) a3
def Gm (F:Nat) (p0:List zN) (p1:zF) (a1:(List (List zL))×Int) (a2:(List (List zM))×Int) (k7:Int->Option Bool) (a0:Int):Option Bool:=bif (decide (a0<(a1.1.length:Int))) then ((getI a1.1 a0).bind λa3=>(getI a2.1 a0).bind λa4=>bif ((a3.length:Int) != (a4.length:Int)) then (some false) else (Fe F a1 a2 a0 k7 F 0)) else (Fa F p0 p1)
def Ce (F:Nat) (p0:List zN) (p1:zF) (a1:(List (List zL))×Int) (a0:(List (List zM))×Int):Nat->Int->Option Bool
  | 0,_=>none
  | n+1,a2=>Gm F p0 p1 a1 a0 (Ce F p0 p1 a1 a0 n) a2
def Gp (F:Nat) (p0:List zN) (p1:zF) (a0:Int):Option Bool:=(gd (((bif (decide (a0>60)) then (decide (a0<=300)) else false)==false&&true)) (Xc F p0) default).bind λa3=>(gd (((bif (bif (decide (a0>60)) then (decide (a0<=300)) else false) then true else (!a3))==false&&true)) (Tw F p1) default).bind λa4=>bif (bif (bif (bif (decide (a0>60)) then (decide (a0<=300)) else false) then true else (!a3)) then true else (!a4)) then ((L5 F).bind λa5=>some a5) else ((Q7 F p0).bind λa6=>(J6 F a6 p1).bind λa2=>(Ha F p0 p1).bind λa1=>bif (bif ((a2.1.length:Int) != (a1.1.length:Int)) then true else (a2.2 != a1.2)) then (some false) else (Ce F p0 p1 a2 a1 F 0))
def G1 (F:Nat) (p0:List zN) (p1:zF) (a2:Int->Int->Option Bool) (a0:Int) (a1:Int):Option Bool:=bif (bif (decide (a1<(p0.length:Int))) then (decide (a0<=400)) else false) then ((getI p0 a1).bind λa3=>(E3 F a3.When 400).bind λa6=>(ck (a0+a6)).bind λa4=>(ck (a1+1)).bind λa5=>a2 a4 a5) else (Gp F p0 p1 a0)
def G2 (F:Nat) (p0:List zN) (p1:zF):Nat->Int->Int->Option Bool
  | 0,_,_=>none
  | n+1,a0,a1=>G1 F p0 p1 (G2 F p0 p1 n) a0 a1
def Ka (F:Nat) (p0:List zN) (p1:zF):Option Bool:=G2 F p0 p1 F 0 0
abbrev CL:=@Calls Tryz.prog
abbrev CR:=@Xx Tryz.prog
abbrev CP (f:FuncId) (l:Array Value) (w:World) (v:Value):Prop:=Calls Tryz.prog f l w (λe w2=>e=.returned v/\Ext w w2)
end Go.Proofs.YtkjnafecmjakcaaGreatDoor
