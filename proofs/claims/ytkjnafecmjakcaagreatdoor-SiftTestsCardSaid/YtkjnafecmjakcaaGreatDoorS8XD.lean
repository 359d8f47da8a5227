import Derived.Test.YtkjnafecmjakcaaGreatDoorS8EB
namespace Go.Proofs.YtkjnafecmjakcaaGreatDoor
open Go Go.RowKit Go.Eng
set_option maxRecDepth 10000
set_option maxHeartbeats 4000000
set_option linter.unusedVariables false
set_option linter.unusedSimpArgs false
structure zE where
  Op:Int
  Value_:Int
  Rays:Int
  Gates:Int
  Args:(List zE)
  deriving Inhabited
structure zA where
  Op:Int
  Value_:Int
  Rays:Int
  Gates:Int
  Args:(List zA)
  deriving Inhabited
structure zK where
  Name:ByteArray
  When:zA
  deriving Inhabited
structure zM where
  Name:ByteArray
  X:Int
  Y:Int
  Z:Int
  Rose:Int
  Gates:Int
  Step:Int
  Width:Int
  deriving Inhabited,DecidableEq
def zM.cells (x:zM):List Value:=[.string x.Name,.int .i64 x.X,.int .i64 x.Y,.int .i64 x.Z,.int .i64 x.Rose,.int .i64 x.Gates,.int .i64 x.Step,.int .i64 x.Width]
theorem zM.cells_len (x:zM):(zM.cells x).length=8:=rfl
structure zC where
  Lo:Int
  Hi:Int
  deriving Inhabited,DecidableEq
def zC.cells (x:zC):List Value:=[.int .i64 x.Lo,.int .i64 x.Hi]
theorem zC.cells_len (x:zC):(zC.cells x).length=2:=rfl
structure zJ where
  Kind:Int
  Power:zC
  Steps:(zC×zC)
  Spread:Int
  Ratio:zC
  Match:zC
  Turn:zC
  deriving Inhabited,DecidableEq
def zJ.cells (x:zJ):List Value:=[.int .i64 x.Kind,.int .i64 x.Power.Lo,.int .i64 x.Power.Hi,.int .i64 x.Steps.1.Lo,.int .i64 x.Steps.1.Hi,.int .i64 x.Steps.2.Lo,.int .i64 x.Steps.2.Hi,.int .i64 x.Spread,.int .i64 x.Ratio.Lo,.int .i64 x.Ratio.Hi,.int .i64 x.Match.Lo,.int .i64 x.Match.Hi,.int .i64 x.Turn.Lo,.int .i64 x.Turn.Hi]
theorem zJ.cells_len (x:zJ):(zJ.cells x).length=14:=rfl
structure zG where
  Site:zM
  Tilt:Int
  Time:Int
  Rays:(List (List zJ))
  deriving Inhabited,DecidableEq
structure zD where
  span:zC
  has:Bool
  deriving Inhabited,DecidableEq
def zD.cells (x:zD):List Value:=[.int .i64 x.span.Lo,.int .i64 x.span.Hi,.bool x.has]
theorem zD.cells_len (x:zD):(zD.cells x).length=3:=rfl
structure zF where
  s:zG
  n:Int
  tests:(List (ByteArray×(List Int)))
  values:(List (ByteArray×(List zD)))
  deriving Inhabited,DecidableEq
structure zL where
  Rule:Int
  Doubts:(List Int)
  deriving Inhabited,DecidableEq
structure zB where
  s:ByteArray
  at_:Int
  token:ByteArray
  from_:Int
  deriving Inhabited,DecidableEq
def zB.cells (x:zB):List Value:=[.string x.s,.int .i64 x.at_,.string x.token,.int .i64 x.from_]
theorem zB.cells_len (x:zB):(zB.cells x).length=4:=rfl
structure zH where
  Span:zC
  Has:Bool
  deriving Inhabited,DecidableEq
def zH.cells (x:zH):List Value:=[.int .i64 x.Span.Lo,.int .i64 x.Span.Hi,.bool x.Has]
theorem zH.cells_len (x:zH):(zH.cells x).length=3:=rfl
abbrev zM.ar (x:zM):Array Value:=#[.string x.Name,.int .i64 x.X,.int .i64 x.Y,.int .i64 x.Z,.int .i64 x.Rose,.int .i64 x.Gates,.int .i64 x.Step,.int .i64 x.Width]
abbrev zM.ag (x:zM):Value:=.agg #[.string x.Name,.int .i64 x.X,.int .i64 x.Y,.int .i64 x.Z,.int .i64 x.Rose,.int .i64 x.Gates,.int .i64 x.Step,.int .i64 x.Width]
abbrev zJ.ar (x:zJ):Array Value:=#[.int .i64 x.Kind,.int .i64 x.Power.Lo,.int .i64 x.Power.Hi,.int .i64 x.Steps.1.Lo,.int .i64 x.Steps.1.Hi,.int .i64 x.Steps.2.Lo,.int .i64 x.Steps.2.Hi,.int .i64 x.Spread,.int .i64 x.Ratio.Lo,.int .i64 x.Ratio.Hi,.int .i64 x.Match.Lo,.int .i64 x.Match.Hi,.int .i64 x.Turn.Lo,.int .i64 x.Turn.Hi]
abbrev zJ.ag (x:zJ):Value:=.agg #[.int .i64 x.Kind,.int .i64 x.Power.Lo,.int .i64 x.Power.Hi,.int .i64 x.Steps.1.Lo,.int .i64 x.Steps.1.Hi,.int .i64 x.Steps.2.Lo,.int .i64 x.Steps.2.Hi,.int .i64 x.Spread,.int .i64 x.Ratio.Lo,.int .i64 x.Ratio.Hi,.int .i64 x.Match.Lo,.int .i64 x.Match.Hi,.int .i64 x.Turn.Lo,.int .i64 x.Turn.Hi]
abbrev zD.ar (x:zD):Array Value:=#[.int .i64 x.span.Lo,.int .i64 x.span.Hi,.bool x.has]
abbrev zD.ag (x:zD):Value:=.agg #[.int .i64 x.span.Lo,.int .i64 x.span.Hi,.bool x.has]
abbrev zB.ar (x:zB):Array Value:=#[.string x.s,.int .i64 x.at_,.string x.token,.int .i64 x.from_]
abbrev zH.ar (x:zH):Array Value:=#[.int .i64 x.Span.Lo,.int .i64 x.Span.Hi,.bool x.Has]
abbrev zH.ag (x:zH):Value:=.agg #[.int .i64 x.Span.Lo,.int .i64 x.Span.Hi,.bool x.Has]
abbrev zF.ax (x:zF) (adg1_:Option Addr) (capg2_:Nat) (mg4_:Nat) (mg5_:Nat):Array Value:=#[.string x.s.Site.Name,.int .i64 x.s.Site.X,.int .i64 x.s.Site.Y,.int .i64 x.s.Site.Z,.int .i64 x.s.Site.Rose,.int .i64 x.s.Site.Gates,.int .i64 x.s.Site.Step,.int .i64 x.s.Site.Width,.int .i64 x.s.Tilt,.int .i64 x.s.Time,.slice adg1_ x.s.Rays.length capg2_,.int .i64 x.n,.map (some mg4_),.map (some mg5_)]
abbrev zG.ax (x:zG) (adg1_:Option Addr) (capg2_:Nat):Array Value:=#[.string x.Site.Name,.int .i64 x.Site.X,.int .i64 x.Site.Y,.int .i64 x.Site.Z,.int .i64 x.Site.Rose,.int .i64 x.Site.Gates,.int .i64 x.Site.Step,.int .i64 x.Site.Width,.int .i64 x.Tilt,.int .i64 x.Time,.slice adg1_ x.Rays.length capg2_]
abbrev zK.ax (x:zK) (adg1_:Option Addr) (capg2_:Nat):Array Value:=#[.string x.Name,.int .i64 x.When.Op,.int .i64 x.When.Value_,.int .i64 x.When.Rays,.int .i64 x.When.Gates,.slice adg1_ x.When.Args.length capg2_]
abbrev zE.ax (x:zE) (adg1_:Option Addr) (capg2_:Nat):Array Value:=#[.int .i64 x.Op,.int .i64 x.Value_,.int .i64 x.Rays,.int .i64 x.Gates,.slice adg1_ x.Args.length capg2_]
abbrev zA.ax (x:zA) (adg1_:Option Addr) (capg2_:Nat):Array Value:=#[.int .i64 x.Op,.int .i64 x.Value_,.int .i64 x.Rays,.int .i64 x.Gates,.slice adg1_ x.Args.length capg2_]
abbrev zM.e0 (x:zM):Bool:=((x.Name==ByteArray.empty)&&(((x.X:Int)==0)&&(((x.Y:Int)==0)&&(((x.Z:Int)==0)&&(((x.Rose:Int)==0)&&(((x.Gates:Int)==0)&&(((x.Step:Int)==0)&&(((x.Width:Int)==0)&&true))))))))
abbrev zJ.e0 (x:zJ):Bool:=(((x.Kind:Int)==0)&&(((x.Power.Lo:Int)==0)&&(((x.Power.Hi:Int)==0)&&(((x.Steps.1.Lo:Int)==0)&&(((x.Steps.1.Hi:Int)==0)&&(((x.Steps.2.Lo:Int)==0)&&(((x.Steps.2.Hi:Int)==0)&&(((x.Spread:Int)==0)&&(((x.Ratio.Lo:Int)==0)&&(((x.Ratio.Hi:Int)==0)&&(((x.Match.Lo:Int)==0)&&(((x.Match.Hi:Int)==0)&&(((x.Turn.Lo:Int)==0)&&(((x.Turn.Hi:Int)==0)&&true))))))))))))))
abbrev zB.e0 (x:zB):Bool:=((x.s==ByteArray.empty)&&(((x.at_:Int)==0)&&((x.token==ByteArray.empty)&&(((x.from_:Int)==0)&&true))))
abbrev z83:Array Value:=#[.int .i64 0,.int .i64 0,.int .i64 0,.int .i64 0,.int .i64 0,.int .i64 0,.int .i64 0,.int .i64 0,.int .i64 0,.int .i64 0,.int .i64 0,.int .i64 0,.int .i64 0,.int .i64 0]
abbrev z50:Array Value:=#[.string ByteArray.empty,.int .i64 0,.int .i64 0,.int .i64 0,.int .i64 0,.int .i64 0,.int .i64 0,.int .i64 0,.int .i64 0,.int .i64 0,.slice none 0 0]
abbrev z65:Array Value:=#[.string ByteArray.empty,.int .i64 0,.int .i64 0,.int .i64 0,.int .i64 0,.slice none 0 0]
abbrev z88:Array Value:=#[.int .i64 0,.int .i64 0,.int .i64 0,.int .i64 0,.slice none 0 0]
inductive Rp88:Frz->List Value->zE->Prop
  | mk_ {μ:Frz} {x:zE} (ad1:Option Addr) (cap2:Nat) (css3:List (List Value)):ArrM μ 5 (fN 5) ad1 cap2 css3->All2 (Rp88 μ) css3 x.Args->Rp88 μ [.int .i64 x.Op,.int .i64 x.Value_,.int .i64 x.Rays,.int .i64 x.Gates,.slice ad1 x.Args.length cap2] x
theorem Rp88.out {μ:Frz} {cs:List Value} {x:zE} (h:Rp88 μ cs x):∃(ad1:Option Addr) (cap2:Nat) (css3:List (List Value)),cs=[.int .i64 x.Op,.int .i64 x.Value_,.int .i64 x.Rays,.int .i64 x.Gates,.slice ad1 x.Args.length cap2]/\ArrQ μ 5 Rp88 ad1 cap2 css3 x.Args:=by
  cases h with
  | mk_ a b c h1 h2=>exact ⟨a,b,c,rfl,h1,h2⟩
theorem Rp88.in_ {μ:Frz} {cs:List Value} {x:zE} (h:∃(ad1:Option Addr) (cap2:Nat) (css3:List (List Value)),cs=[.int .i64 x.Op,.int .i64 x.Value_,.int .i64 x.Rays,.int .i64 x.Gates,.slice ad1 x.Args.length cap2]/\ArrQ μ 5 Rp88 ad1 cap2 css3 x.Args):Rp88 μ cs x:=by
  obtain ⟨a,b,c,rfl,h1,h2⟩:=h;exact .mk_ a b c h1 h2
theorem Rp88.mono_ {μ ν:Frz} (hle:μ.le ν):∀(x:zE) (cs:List Value),Rp88 μ cs x->Rp88 ν cs x
  | x,cs,h=>by
    obtain ⟨a,b,c,rfl,h1,h2⟩:=h.out;refine .mk_ a b c (h1.mono hle) ?_;have go:∀(m:List zE) (cs:List (List Value)),(∀y∈m,∀c,Rp88 μ c y->Rp88 ν c y)->All2 (Rp88 μ) cs m->All2 (Rp88 ν) cs m:=by
      intro m
      induction m with
      | nil=>intro cs _ h;cases h;exact .nil
      | cons y m ih=>intro cs hy h;cases h with|cons h3 h4=>exact .cons (hy y (by simp) _ h3) (ih _ (λz hz=>hy z (by simp [hz])) h4)
    exact go _ c (λy hy c=>Rp88.mono_ hle y c) h2
termination_by x=>SizeOf.sizeOf x
decreasing_by
  have h9:=List.sizeOf_lt_of_mem hy
  cases x
  simp +arith at *;omega
theorem Rp88.mono:Rel.Mono Rp88:=λ_ _ cs x hle h=>Rp88.mono_ hle x cs h
inductive Rp63:Frz->List Value->zA->Prop
  | mk_ {μ:Frz} {x:zA} (ad1:Option Addr) (cap2:Nat) (css3:List (List Value)):ArrM μ 5 (fN 5) ad1 cap2 css3->All2 (Rp63 μ) css3 x.Args->Rp63 μ [.int .i64 x.Op,.int .i64 x.Value_,.int .i64 x.Rays,.int .i64 x.Gates,.slice ad1 x.Args.length cap2] x
theorem Rp63.out {μ:Frz} {cs:List Value} {x:zA} (h:Rp63 μ cs x):∃(ad1:Option Addr) (cap2:Nat) (css3:List (List Value)),cs=[.int .i64 x.Op,.int .i64 x.Value_,.int .i64 x.Rays,.int .i64 x.Gates,.slice ad1 x.Args.length cap2]/\ArrQ μ 5 Rp63 ad1 cap2 css3 x.Args:=by
  cases h with
  | mk_ a b c h1 h2=>exact ⟨a,b,c,rfl,h1,h2⟩
theorem Rp63.in_ {μ:Frz} {cs:List Value} {x:zA} (h:∃(ad1:Option Addr) (cap2:Nat) (css3:List (List Value)),cs=[.int .i64 x.Op,.int .i64 x.Value_,.int .i64 x.Rays,.int .i64 x.Gates,.slice ad1 x.Args.length cap2]/\ArrQ μ 5 Rp63 ad1 cap2 css3 x.Args):Rp63 μ cs x:=by
  obtain ⟨a,b,c,rfl,h1,h2⟩:=h;exact .mk_ a b c h1 h2
theorem Rp63.mono_ {μ ν:Frz} (hle:μ.le ν):∀(x:zA) (cs:List Value),Rp63 μ cs x->Rp63 ν cs x
  | x,cs,h=>by
    obtain ⟨a,b,c,rfl,h1,h2⟩:=h.out;refine .mk_ a b c (h1.mono hle) ?_;have go:∀(m:List zA) (cs:List (List Value)),(∀y∈m,∀c,Rp63 μ c y->Rp63 ν c y)->All2 (Rp63 μ) cs m->All2 (Rp63 ν) cs m:=by
      intro m
      induction m with
      | nil=>intro cs _ h;cases h;exact .nil
      | cons y m ih=>intro cs hy h;cases h with|cons h3 h4=>exact .cons (hy y (by simp) _ h3) (ih _ (λz hz=>hy z (by simp [hz])) h4)
    exact go _ c (λy hy c=>Rp63.mono_ hle y c) h2
termination_by x=>SizeOf.sizeOf x
decreasing_by
  have h9:=List.sizeOf_lt_of_mem hy
  cases x
  simp +arith at *;omega
theorem Rp63.mono:Rel.Mono Rp63:=λ_ _ cs x hle h=>Rp63.mono_ hle x cs h
theorem Rp63.one:Rel.One 5 Rp63:=by
  intro μ cs x h;obtain ⟨a,b,c,rfl,h1⟩:=h.out
  all_goals rfl
def Rp65:Rel zK:=fun μ cs x=>∃(ad1:Option Addr) (cap2:Nat) (css3:List (List Value)),cs=[.string x.Name,.int .i64 x.When.Op,.int .i64 x.When.Value_,.int .i64 x.When.Rays,.int .i64 x.When.Gates,.slice ad1 x.When.Args.length cap2]/\ArrQ μ 5 Rp63 ad1 cap2 css3 x.When.Args
theorem Rp65.mono:Rel.Mono Rp65:=by
  intro μ ν cs x hle h;obtain ⟨ad1,cap2,css3,rfl,f0⟩:=h;exact ⟨ad1,cap2,css3,rfl,f0.mono Rp63.mono hle⟩
theorem Rp65.one:Rel.One 6 Rp65:=by
  intro μ cs x h;obtain ⟨ad1,cap2,css3,rfl,f0⟩:=h
  all_goals rfl
def Rp78:Rel (List zJ):=fun μ cs x=>∃(ad1:Option Addr) (cap2:Nat),cs=[.slice ad1 x.length cap2]/\ArrM μ 14 zJ.cells ad1 cap2 x
theorem Rp78.mono:Rel.Mono Rp78:=by
  intro μ ν cs x hle h;obtain ⟨ad1,cap2,rfl,f0⟩:=h;exact ⟨ad1,cap2,rfl,f0.mono hle⟩
def Rp183:Rel zF:=fun μ cs x=>∃(ad1:Option Addr) (cap2:Nat) (css3:List (List Value)) (m4:Nat) (m5:Nat),cs=[.string x.s.Site.Name,.int .i64 x.s.Site.X,.int .i64 x.s.Site.Y,.int .i64 x.s.Site.Z,.int .i64 x.s.Site.Rose,.int .i64 x.s.Site.Gates,.int .i64 x.s.Site.Step,.int .i64 x.s.Site.Width,.int .i64 x.s.Tilt,.int .i64 x.s.Time,.slice ad1 x.s.Rays.length cap2,.int .i64 x.n,.map (some m4),.map (some m5)]/\ArrQ μ 1 Rp78 ad1 cap2 css3 x.s.Rays
theorem Rp183.mono:Rel.Mono Rp183:=by
  intro μ ν cs x hle h;obtain ⟨ad1,cap2,css3,m4,m5,rfl,f0⟩:=h;exact ⟨ad1,cap2,css3,m4,m5,rfl,f0.mono Rp78.mono hle⟩
def Rp57:Rel (List Int):=fun μ cs x=>∃(ad1:Option Addr) (cap2:Nat),cs=[.slice ad1 x.length cap2]/\ArrM μ 1 fI ad1 cap2 x
theorem Rp57.mono:Rel.Mono Rp57:=by
  intro μ ν cs x hle h;obtain ⟨ad1,cap2,rfl,f0⟩:=h;exact ⟨ad1,cap2,rfl,f0.mono hle⟩
theorem Rp57.one:Rel.One 1 Rp57:=by
  intro μ cs x h;obtain ⟨ad1,cap2,rfl,f0⟩:=h
  all_goals rfl
def Rp59:Rel zL:=fun μ cs x=>∃(ad1:Option Addr) (cap2:Nat),cs=[.int .i64 x.Rule,.slice ad1 x.Doubts.length cap2]/\ArrM μ 1 fI ad1 cap2 x.Doubts
theorem Rp59.mono:Rel.Mono Rp59:=by
  intro μ ν cs x hle h;obtain ⟨ad1,cap2,rfl,f0⟩:=h;exact ⟨ad1,cap2,rfl,f0.mono hle⟩
theorem Rp59.one:Rel.One 2 Rp59:=by
  intro μ cs x h;obtain ⟨ad1,cap2,rfl,f0⟩:=h
  all_goals rfl
def Rp56:Rel (List zL):=fun μ cs x=>∃(ad1:Option Addr) (cap2:Nat) (css3:List (List Value)),cs=[.slice ad1 x.length cap2]/\ArrQ μ 2 Rp59 ad1 cap2 css3 x
theorem Rp56.mono:Rel.Mono Rp56:=by
  intro μ ν cs x hle h;obtain ⟨ad1,cap2,css3,rfl,f0⟩:=h;exact ⟨ad1,cap2,css3,rfl,f0.mono Rp59.mono hle⟩
def Rp161:Rel (List zH):=fun μ cs x=>∃(ad1:Option Addr) (cap2:Nat),cs=[.slice ad1 x.length cap2]/\ArrM μ 3 zH.cells ad1 cap2 x
theorem Rp161.mono:Rel.Mono Rp161:=by
  intro μ ν cs x hle h;obtain ⟨ad1,cap2,rfl,f0⟩:=h;exact ⟨ad1,cap2,rfl,f0.mono hle⟩
theorem Rp161.one:Rel.One 1 Rp161:=by
  intro μ cs x h;obtain ⟨ad1,cap2,rfl,f0⟩:=h
  all_goals rfl
def Rp162:Rel (List (List zH)):=fun μ cs x=>∃(ad1:Option Addr) (cap2:Nat) (css3:List (List Value)),cs=[.slice ad1 x.length cap2]/\ArrQ μ 1 Rp161 ad1 cap2 css3 x
theorem Rp162.mono:Rel.Mono Rp162:=by
  intro μ ν cs x hle h;obtain ⟨ad1,cap2,css3,rfl,f0⟩:=h;exact ⟨ad1,cap2,css3,rfl,f0.mono Rp161.mono hle⟩
theorem Rp162.one:Rel.One 1 Rp162:=by
  intro μ cs x h;obtain ⟨ad1,cap2,css3,rfl,f0⟩:=h
  all_goals rfl
def Rp142:Rel (List (List Int)):=fun μ cs x=>∃(ad1:Option Addr) (cap2:Nat) (css3:List (List Value)),cs=[.slice ad1 x.length cap2]/\ArrQ μ 1 Rp57 ad1 cap2 css3 x
theorem Rp142.mono:Rel.Mono Rp142:=by
  intro μ ν cs x hle h;obtain ⟨ad1,cap2,css3,rfl,f0⟩:=h;exact ⟨ad1,cap2,css3,rfl,f0.mono Rp57.mono hle⟩
theorem Rp142.one:Rel.One 1 Rp142:=by
  intro μ cs x h;obtain ⟨ad1,cap2,css3,rfl,f0⟩:=h
  all_goals rfl
def J5 (p0:ByteArray):Bool:=A6x p0
def C3 (p0:ByteArray) (p1:Int):Int:=Lib.indexByte p0.data.toList p1.toNat.toUInt8
def Bc (F:Nat) (p0 p1:ByteArray):Option Bool:=match p1.data.toList with|[c]=>some (decide (0<=Lib.indexByte p0.data.toList c))|_=>none
def strconv_Itoa (F:Nat) (p0:Int):Option ByteArray:=if -9223372036854775808<=p0/\p0<=9223372036854775807 then some ⟨(Lib.itoa p0).toArray⟩ else none
def A0a (F:Nat) (p0:Bool×List Int):Option (Bool×List Int):=some (true,p0.2)
def V9 (F:Nat) (p0:Bool×List Int):Option ByteArray:=some (bst p0.2)
def Ng (a0:Int):Option Int :=
  some a0
def Lq (self_:zE->Int->Option Int) (p0:zE) (p1:Int) (k2:Int->Int->Option Int) (a0:Int) (a1:Int):Option Int :=
  bif (bif (decide (a1<((p0.Args.length:Nat):Int))) then (decide (a0<=p1)) else false) then ((getI p0.Args a1).bind λa2 =>
  (ck (p1-a0)).bind λa3 =>
  (self_ a2 a3).bind λa6 =>
  (ck (a0+a6)).bind λa4 =>
  (ck (a1+1)).bind λa5 =>
  k2 a4 a5) else (Ng a0)
def Jo (self_:zE->Int->Option Int) (p0:zE) (p1:Int):Nat->Int->Int->Option Int
  | 0,_,_=>none
  | n+1,a0,a1=>Lq self_ p0 p1 (Jo self_ p0 p1 n) a0 a1
def Rw (F:Nat) (self_:zE->Int->Option Int) (p0:zE) (p1:Int):Option Int :=
  Jo self_ p0 p1 F 1 0
def E0:Nat->zE->Int->Option Int
  | 0,_,_=>none
  | F+1,p0,p1=>Rw F (E0 F) p0 p1
def Kt (a0:Int):Option Int :=
  some a0
def F9 (self_:zA->Int->Option Int) (p0:zA) (p1:Int) (k2:Int->Int->Option Int) (a1:Int) (a0:Int):Option Int :=
  bif (decide (a1<((p0.Args.length:Nat):Int))) then ((getI p0.Args a1).bind λa2 =>
  bif (decide (a0>p1)) then (Kt a0) else ((ck (p1-a0)).bind λa3 =>
  (self_ a2 a3).bind λa6 =>
  (ck (a0+a6)).bind λa4 =>
  (ck (a1+1)).bind λa5 =>
  k2 a5 a4)) else (Kt a0)
def Cg (self_:zA->Int->Option Int) (p0:zA) (p1:Int):Nat->Int->Int->Option Int
  | 0,_,_=>none
  | n+1,a0,a1=>F9 self_ p0 p1 (Cg self_ p0 p1 n) a0 a1
def R1 (F:Nat) (self_:zA->Int->Option Int) (p0:zA) (p1:Int):Option Int :=
  Cg self_ p0 p1 F 0 1
def Bp:Nat->zA->Int->Option Int
  | 0,_,_=>none
  | F+1,p0,p1=>R1 F (Bp F) p0 p1
def beam_Name (F:Nat) (p0:ByteArray):Option Bool :=
  (gd (((bif (!(sEq p0 (⟨#[]⟩:ByteArray))) then (decide (((p0.size:Nat):Int)<=12)) else false)==true&&true)) (R9 p0 (0:Int)) default).bind λu1 =>
  (gd (((bif (bif (!(sEq p0 (⟨#[]⟩:ByteArray))) then (decide (((p0.size:Nat):Int)<=12)) else false) then (decide (u1>=97)) else false)==true&&true)) (R9 p0 (0:Int)) default).bind λu2 =>
  some (bif (bif (bif (bif (!(sEq p0 (⟨#[]⟩:ByteArray))) then (decide (((p0.size:Nat):Int)<=12)) else false) then (decide (u1>=97)) else false) then (decide (u2<=122)) else false) then (!(J5 p0)) else false)
def Cl:(Qc ByteArray 28) :=
  (⟨[(⟨#[]⟩:ByteArray),(⟨#[116,114,117,101]⟩:ByteArray),(⟨#[102,97,108,115,101]⟩:ByteArray),(⟨#[110,111,116]⟩:ByteArray),(⟨#[97,110,100]⟩:ByteArray),(⟨#[111,114]⟩:ByteArray),(⟨#[115,111,109,101]⟩:ByteArray),(⟨#[97,108,108]⟩:ByteArray),(⟨#[60]⟩:ByteArray),(⟨#[60,61]⟩:ByteArray),(⟨#[62]⟩:ByteArray),(⟨#[62,61]⟩:ByteArray),(⟨#[61]⟩:ByteArray),(⟨#[33,61]⟩:ByteArray),(⟨#[]⟩:ByteArray),(⟨#[112,111,119,101,114]⟩:ByteArray),(⟨#[114,97,116,105,111]⟩:ByteArray),(⟨#[109,97,116,99,104]⟩:ByteArray),(⟨#[115,112,114,101,97,100]⟩:ByteArray),(⟨#[116,117,114,110]⟩:ByteArray),(⟨#[115,116,101,112]⟩:ByteArray),(⟨#[107,105,110,100]⟩:ByteArray),(⟨#[114,97,121]⟩:ByteArray),(⟨#[103,97,116,101]⟩:ByteArray),(⟨#[116,105,108,116]⟩:ByteArray),(⟨#[99,111,117,110,116]⟩:ByteArray),(⟨#[43]⟩:ByteArray),(⟨#[45]⟩:ByteArray)],rfl⟩:Qc ByteArray 28)
def G0:Option Int :=
  some (-1)
def Fz (p0:List ByteArray) (p1:ByteArray) (k2:Int->Option Int) (a0:Int):Option Int :=
  bif (decide (a0<((p0.length:Nat):Int))) then ((getI p0 a0).bind λa1 =>
  bif (sEq p1 a1) then (some a0) else ((ck (a0+1)).bind λa2 =>
  k2 a2)) else (G0)
def E2 (p0:List ByteArray) (p1:ByteArray):Nat->Int->Option Int
  | 0,_=>none
  | n+1,a0=>Fz p0 p1 (E2 p0 p1 n) a0
def Hl (F:Nat) (p0:List ByteArray) (p1:ByteArray):Option Int :=
  E2 p0 p1 F 0
def P5 (F:Nat) (p0:ByteArray) (p1:Int) (p2:Int):Option Int :=
  (ck (p2+1)).bind λx2 =>
  (Yy Cl.1 p1 x2).bind λl3 =>
  (Hl F l3 p0).bind λy4 =>
  bif (bif (decide (y4>=0)) then (!(sEq p0 (⟨#[]⟩:ByteArray))) else false) then ((ck (p1+y4)).bind λx5 =>
  some x5) else (some 0)
def sift_word (F:Nat) (p0:ByteArray):Option Bool :=
  (P5 F p0 1 7).bind λy1 =>
  (gd (((decide (y1>0))==false&&true)) (P5 F p0 15 25) default).bind λy2 =>
  some (bif (decide (y1>0)) then true else (decide (y2>0)))
def Qg (p0:zK) (c0_:zK):Bool :=
  sEq p0.Name c0_.Name
def Nn (a0:Int):Option Int :=
  (ck (a0+1)).bind λa1 =>
  some a1
def J3 (self_:zA->Option Int) (p0:zA) (k2:Int->Int->Option Int) (a0:Int) (a1:Int):Option Int :=
  bif (decide (a1<((p0.Args.length:Nat):Int))) then ((getI p0.Args a1).bind λa3 =>
  (self_ a3).bind λa2 =>
  (ck (a1+1)).bind λa4 =>
  k2 (if a2>a0 then a2 else a0) a4) else (Nn a0)
def E7 (self_:zA->Option Int) (p0:zA):Nat->Int->Int->Option Int
  | 0,_,_=>none
  | n+1,a0,a1=>J3 self_ p0 (E7 self_ p0 n) a0 a1
def Uj (F:Nat) (self_:zA->Option Int) (p0:zA):Option Int :=
  E7 self_ p0 F 0 0
def Fo:Nat->zA->Option Int
  | 0,_=>none
  | F+1,p0=>Uj F (Fo F) p0
def sift_isCondition (p0:zA):Bool :=
  bif (decide (p0.Op>=1)) then (decide (p0.Op<=13)) else false
def sift_isValue (p0:zA):Bool :=
  bif (decide (p0.Op>=14)) then (decide (p0.Op<=27)) else false
def Lu (p0:zA):Option Bool :=
  bif (decide (p0.Op<26)) then (some true) else ((getI p0.Args 1).bind λa0 =>
  some (decide (a0.Op<26)))
def Ch (self_:zA->Option Bool) (p0:zA) (k2:Int->Option Bool) (a1:Int):Option Bool :=
  bif (decide (a1<((p0.Args.length:Nat):Int))) then ((getI p0.Args a1).bind λa0 =>
  (gd (((!(sift_isCondition a0))==false&&true)) (self_ a0) default).bind λa3 =>
  bif (bif (!(sift_isCondition a0)) then true else (!a3)) then (some false) else ((ck (a1+1)).bind λa2 =>
  k2 a2)) else (Lu p0)
def Jy (self_:zA->Option Bool) (p0:zA):Nat->Int->Option Bool
  | 0,_=>none
  | n+1,a0=>Ch self_ p0 (Jy self_ p0 n) a0
def Lv (p0:zA):Option Bool :=
  bif (decide (p0.Op<26)) then (some true) else ((getI p0.Args 1).bind λa0 =>
  some (decide (a0.Op<26)))
def Ci (self_:zA->Option Bool) (p0:zA) (k4:Int->Option Bool) (a1:Int):Option Bool :=
  bif (decide (a1<((p0.Args.length:Nat):Int))) then ((getI p0.Args a1).bind λa0 =>
  (gd (((!(sift_isCondition a0))==false&&true)) (self_ a0) default).bind λa3 =>
  bif (bif (!(sift_isCondition a0)) then true else (!a3)) then (some false) else ((ck (a1+1)).bind λa2 =>
  k4 a2)) else (Lv p0)
def Jz (self_:zA->Option Bool) (p0:zA):Nat->Int->Option Bool
  | 0,_=>none
  | n+1,a0=>Ci self_ p0 (Jz self_ p0 n) a0
def Lw (p0:zA):Option Bool :=
  bif (decide (p0.Op<26)) then (some true) else ((getI p0.Args 1).bind λa0 =>
  some (decide (a0.Op<26)))
def Cj (self_:zA->Option Bool) (p0:zA) (k6:Int->Option Bool) (a1:Int):Option Bool :=
  bif (decide (a1<((p0.Args.length:Nat):Int))) then ((getI p0.Args a1).bind λa0 =>
  (gd (((!(sift_isCondition a0))==false&&true)) (self_ a0) default).bind λa3 =>
  bif (bif (!(sift_isCondition a0)) then true else (!a3)) then (some false) else ((ck (a1+1)).bind λa2 =>
  k6 a2)) else (Lw p0)
def K0 (self_:zA->Option Bool) (p0:zA):Nat->Int->Option Bool
  | 0,_=>none
  | n+1,a0=>Cj self_ p0 (K0 self_ p0 n) a0
def Lx (p0:zA):Option Bool :=
  bif (decide (p0.Op<26)) then (some true) else ((getI p0.Args 1).bind λa0 =>
  some (decide (a0.Op<26)))
def Ck (self_:zA->Option Bool) (p0:zA) (k8:Int->Option Bool) (a1:Int):Option Bool :=
  bif (decide (a1<((p0.Args.length:Nat):Int))) then ((getI p0.Args a1).bind λa0 =>
  (gd (((!(sift_isValue a0))==false&&true)) (self_ a0) default).bind λa3 =>
  bif (bif (!(sift_isValue a0)) then true else (!a3)) then (some false) else ((ck (a1+1)).bind λa2 =>
  k8 a2)) else (Lx p0)
def K1 (self_:zA->Option Bool) (p0:zA):Nat->Int->Option Bool
  | 0,_=>none
  | n+1,a0=>Ck self_ p0 (K1 self_ p0 n) a0
def Np (p0:zA):Option Bool :=
  bif (decide (p0.Op<26)) then (some true) else ((getI p0.Args 1).bind λa0 =>
  some (decide (a0.Op<26)))
def E8 (self_:zA->Option Bool) (p0:zA) (a2:Int->Option Bool) (a1:Int):Option Bool :=
  bif (decide (a1<((p0.Args.length:Nat):Int))) then ((getI p0.Args a1).bind λa0 =>
  (gd (((!(sift_isCondition a0))==false&&true)) (self_ a0) default).bind λa4 =>
  bif (bif (!(sift_isCondition a0)) then true else (!a4)) then (some false) else ((ck (a1+1)).bind λa3 =>
  a2 a3)) else (Np p0)
def Ku (self_:zA->Option Bool) (p0:zA):Nat->Int->Option Bool
  | 0,_=>none
  | n+1,a0=>E8 self_ p0 (Ku self_ p0 n) a0
def Mu (p0:zA):Option Bool :=
  bif (decide (p0.Op<26)) then (some true) else ((getI p0.Args 1).bind λa0 =>
  some (decide (a0.Op<26)))
def E9 (self_:zA->Option Bool) (p0:zA) (a2:Int->Option Bool) (a1:Int):Option Bool :=
  bif (decide (a1<((p0.Args.length:Nat):Int))) then ((getI p0.Args a1).bind λa0 =>
  (gd (((!(sift_isCondition a0))==false&&true)) (self_ a0) default).bind λa4 =>
  bif (bif (!(sift_isCondition a0)) then true else (!a4)) then (some false) else ((ck (a1+1)).bind λa3 =>
  a2 a3)) else (Mu p0)
def Kv (self_:zA->Option Bool) (p0:zA):Nat->Int->Option Bool
  | 0,_=>none
  | n+1,a0=>E9 self_ p0 (Kv self_ p0 n) a0
def E6 (F:Nat) (self_:zA->Option Bool) (p0:zA):Option Bool :=
  bif (p0.Op==3) then (bif (bif (bif (bif (((p0.Args.length:Nat):Int) != 1) then true else (decide ((if p0.Gates<if p0.Rays<p0.Value_ then p0.Rays else p0.Value_ then p0.Gates else if p0.Rays<p0.Value_ then p0.Rays else p0.Value_)<0))) then true else (decide (p0.Value_>0))) then true else (decide ((if p0.Gates>p0.Rays then p0.Gates else p0.Rays)>0))) then (some false) else (Jy self_ p0 F 0)) else (bif (bif (p0.Op==4) then true else (p0.Op==5)) then (bif (bif (bif (bif (((p0.Args.length:Nat):Int) != 2) then true else (decide ((if p0.Gates<if p0.Rays<p0.Value_ then p0.Rays else p0.Value_ then p0.Gates else if p0.Rays<p0.Value_ then p0.Rays else p0.Value_)<0))) then true else (decide (p0.Value_>0))) then true else (decide ((if p0.Gates>p0.Rays then p0.Gates else p0.Rays)>0))) then (some false) else (Jz self_ p0 F 0)) else (bif (bif (bif (p0.Op==6) then true else (p0.Op==7)) then true else (p0.Op==25)) then (bif (bif (bif (bif (((p0.Args.length:Nat):Int) != 1) then true else (decide ((if p0.Gates<if p0.Rays<p0.Value_ then p0.Rays else p0.Value_ then p0.Gates else if p0.Rays<p0.Value_ then p0.Rays else p0.Value_)<0))) then true else (decide (p0.Value_>0))) then true else (decide ((if p0.Gates>p0.Rays then p0.Gates else p0.Rays)>3))) then (some false) else (K0 self_ p0 F 0)) else (bif (bif (bif (bif (decide (p0.Op>=8)) then (decide (p0.Op<=13)) else false) then true else (p0.Op==26)) then true else (p0.Op==27)) then (bif (bif (bif (bif (((p0.Args.length:Nat):Int) != 2) then true else (decide ((if p0.Gates<if p0.Rays<p0.Value_ then p0.Rays else p0.Value_ then p0.Gates else if p0.Rays<p0.Value_ then p0.Rays else p0.Value_)<0))) then true else (decide (p0.Value_>0))) then true else (decide ((if p0.Gates>p0.Rays then p0.Gates else p0.Rays)>0))) then (some false) else (K1 self_ p0 F 0)) else (bif (p0.Op==14) then (bif (bif (bif (bif (((p0.Args.length:Nat):Int) != 0) then true else (decide ((if p0.Gates<if p0.Rays<p0.Value_ then p0.Rays else p0.Value_ then p0.Gates else if p0.Rays<p0.Value_ then p0.Rays else p0.Value_)<0))) then true else (decide (p0.Value_>1000000000))) then true else (decide ((if p0.Gates>p0.Rays then p0.Gates else p0.Rays)>0))) then (some false) else (Ku self_ p0 F 0)) else (bif (bif (!(sift_isCondition p0)) then (!(sift_isValue p0)) else false) then (some false) else (bif (bif (bif (bif (((p0.Args.length:Nat):Int) != 0) then true else (decide ((if p0.Gates<if p0.Rays<p0.Value_ then p0.Rays else p0.Value_ then p0.Gates else if p0.Rays<p0.Value_ then p0.Rays else p0.Value_)<0))) then true else (decide (p0.Value_>0))) then true else (decide ((if p0.Gates>p0.Rays then p0.Gates else p0.Rays)>0))) then (some false) else (Kv self_ p0 F 0)))))))
def Bq:Nat->zA->Option Bool
  | 0,_=>none
  | F+1,p0=>E6 F (Bq F) p0
def Co:Option Int :=
  some (-1)
def Cn (p0:List zK) (c1_0_:zK) (k2:Int->Option Int) (a0:Int):Option Int :=
  bif (decide (a0<((p0.length:Nat):Int))) then ((getI p0 a0).bind λa1 =>
  bif (Qg a1 c1_0_) then (some a0) else ((ck (a0+1)).bind λa2 =>
  k2 a2)) else (Co)
def Bt (p0:List zK) (c1_0_:zK):Nat->Int->Option Int
  | 0,_=>none
  | n+1,a0=>Cn p0 c1_0_ (Bt p0 c1_0_ n) a0
def Cz (F:Nat) (p0:List zK) (c1_0_:zK):Option Int :=
  Bt p0 c1_0_ F 0
def Cm (F:Nat) (p0:List zK) (c1_0_:zK):Option Bool :=
  (Cz F p0 c1_0_).bind λa0 =>
  some (decide (a0>=0))
def S1:Option Int :=
  some 0
def Ry (F:Nat) (p0:List zK) (k3:Int->Option Int) (a1:Int):Option Int :=
  bif (decide (a1<((p0.length:Nat):Int))) then ((getI p0 a1).bind λa0 =>
  (beam_Name F a0.Name).bind λa2 =>
  (gd (((!a2)==false&&true)) (sift_word F a0.Name) default).bind λa5 =>
  bif (bif (!a2) then true else a5) then (some 10) else ((Yy p0 (0:Int) a1).bind λa3 =>
  (Cm F a3 a0).bind λa6 =>
  bif a6 then (some 5) else ((Fo F a0.When).bind λa7 =>
  bif (decide (a7>12)) then (some 24) else ((gd (((!(sift_isCondition a0.When))==false&&true)) (Bq F a0.When) default).bind λa8 =>
  bif (bif (!(sift_isCondition a0.When)) then true else (!a8)) then (some 2) else ((ck (a1+1)).bind λa4 =>
  k3 a4))))) else (S1)
def Pg (F:Nat) (p0:List zK):Nat->Int->Option Int
  | 0,_=>none
  | n+1,a0=>Ry F p0 (Pg F p0 n) a0
def S0 (F:Nat) (p0:List zK):Option Int :=
  Pg F p0 F 0
def Rz (F:Nat) (p0:List zK) (k4:Int->Int->Option Int) (a0:Int) (a3:Int):Option Int :=
  bif (decide (a0<((p0.length:Nat):Int))) then ((getI p0 a0).bind λa2 =>
  (Bp F a2.When 300).bind λa5 =>
  (ck (a3+a5)).bind λa1 =>
  bif (decide (a1>300)) then (some 9) else ((ck (a0+1)).bind λa4 =>
  k4 a4 a1)) else (S0 F p0)
def Ph (F:Nat) (p0:List zK):Nat->Int->Int->Option Int
  | 0,_,_=>none
  | n+1,a0,a1=>Rz F p0 (Ph F p0 n) a0 a1
def Mz (F:Nat) (p0:List zK):Option Int :=
  bif (decide (((p0.length:Nat):Int)>32)) then (some 9) else (Ph F p0 F 0 0)
def G9 (F:Nat) (p0:Bool×List Int) (p1:ByteArray):Option (Int×Unit×(Bool×List Int)) :=
  (A0a F (p0.1,p0.2)).bind λy3 =>
  (apd 1 y3.2 (sby p1)).bind λl9 =>
  some (((p1.size:Nat):Int),(),(y3.1,l9))
def Gv (F:Nat) (self_:zA->Option ByteArray) (p0:zA):Option ByteArray :=
  (A0z Cl p0.Op).bind λu6 =>
  bif (p0.Op==14) then ((strconv_Itoa F p0.Value_).bind λy7 =>
  some y7) else (bif (p0.Op==3) then ((Qd u6 (⟨#[32]⟩:ByteArray)).bind λs8 =>
  (getI p0.Args 0).bind λu9 =>
  (self_ u9).bind λaG =>
  (Qd s8 aG).bind λa1 =>
  some a1) else (bif (((p0.Args.length:Nat):Int)==1) then ((Qd u6 (⟨#[32]⟩:ByteArray)).bind λa2 =>
  (strconv_Itoa F p0.Rays).bind λaH =>
  (Qd a2 aH).bind λa3 =>
  (Qd a3 (⟨#[32]⟩:ByteArray)).bind λa4 =>
  (strconv_Itoa F p0.Gates).bind λaI =>
  (Qd a4 aI).bind λa5 =>
  (Qd a5 (⟨#[32]⟩:ByteArray)).bind λa6 =>
  (getI p0.Args 0).bind λaD =>
  (self_ aD).bind λaJ =>
  (Qd a6 aJ).bind λa7 =>
  some a7) else (bif (((p0.Args.length:Nat):Int)==0) then (some u6) else ((getI p0.Args 0).bind λaE =>
  (self_ aE).bind λaK =>
  (Qd aK (⟨#[32]⟩:ByteArray)).bind λa8 =>
  (Qd a8 u6).bind λa9 =>
  (Qd a9 (⟨#[32]⟩:ByteArray)).bind λaA =>
  (getI p0.Args 1).bind λaF =>
  (self_ aF).bind λaL =>
  (Qd aA aL).bind λa0 =>
  bif (decide (p0.Op<14)) then ((Qd (⟨#[40]⟩:ByteArray) a0).bind λaB =>
  (Qd aB (⟨#[41]⟩:ByteArray)).bind λaC =>
  some aC) else (some a0)))))
def Dg:Nat->zA->Option ByteArray
  | 0,_=>none
  | F+1,p0=>Gv F (Dg F) p0
def Lm (F:Nat) (p0:Bool×List Int):Option (Int×(Bool×List Int)) :=
  some (((p0.2.length:Nat):Int),(p0.1,p0.2))
def Sd (F:Nat) (a1:Bool) (a2:List Int):Option (ByteArray×Int) :=
  (Lm F (a1,a2)).bind λa0 =>
  bif (decide (a0.1>65536)) then (some ((⟨#[]⟩:ByteArray),8)) else ((V9 F (a0.2.1,a0.2.2)).bind λa3 =>
  some (a3,0))
def Sc (F:Nat) (p0:List zK) (k2:Bool->List Int->Int->Option (ByteArray×Int)) (a1:Bool) (a2:List Int) (a0:Int):Option (ByteArray×Int) :=
  bif (decide (a0<((p0.length:Nat):Int))) then ((getI p0 a0).bind λa3 =>
  (Qd a3.Name (⟨#[58,32]⟩:ByteArray)).bind λa5 =>
  (Dg F a3.When).bind λa9 =>
  (Qd a5 a9).bind λa6 =>
  (Qd a6 (⟨#[59,10]⟩:ByteArray)).bind λa7 =>
  (G9 F (a1,a2) a7).bind λa4 =>
  (ck (a0+1)).bind λa8 =>
  k2 a4.2.2.1 a4.2.2.2 a8) else (Sd F a1 a2)
def Po (F:Nat) (p0:List zK):Nat->Bool->List Int->Int->Option (ByteArray×Int)
  | 0,_,_,_=>none
  | n+1,a0,a1,a2=>Sc F p0 (Po F p0 n) a0 a1 a2
def T7 (F:Nat) (p0:List zK):Option (ByteArray×Int) :=
  (Mz F p0).bind λy5 =>
  bif (y5 != 0) then (some ((⟨#[]⟩:ByteArray),y5)) else (Po F p0 F false ([]) 0)
def Um (p0:zA) (a0:Int) (a1:Int):Option (Int×Int) :=
  (ck (a0+p0.Rays)).bind λa2 =>
  (ck (a1+p0.Gates)).bind λa3 =>
  some (a2,a3)
def Ul (self_:zA->Option (Int×Int)) (p0:zA) (k2:Int->Int->Int->Option (Int×Int)) (a1:Int) (a2:Int) (a3:Int):Option (Int×Int) :=
  bif (decide (a1<((p0.Args.length:Nat):Int))) then ((getI p0.Args a1).bind λa4 =>
  (self_ a4).bind λa0 =>
  (ck (a1+1)).bind λa5 =>
  k2 a5 (if a0.1>a2 then a0.1 else a2) (if a0.2>a3 then a0.2 else a3)) else (Um p0 a2 a3)
def Rl (self_:zA->Option (Int×Int)) (p0:zA):Nat->Int->Int->Int->Option (Int×Int)
  | 0,_,_,_=>none
  | n+1,a0,a1,a2=>Ul self_ p0 (Rl self_ p0 n) a0 a1 a2
def W3 (F:Nat) (self_:zA->Option (Int×Int)) (p0:zA):Option (Int×Int) :=
  Rl self_ p0 F 0 0 0
def Uk:Nat->zA->Option (Int×Int)
  | 0,_=>none
  | F+1,p0=>W3 F (Uk F) p0
def Sf (a0:Int) (a1:Int):Option (Int×Int×Int) :=
  some (a0,a1,0)
def Se (F:Nat) (p0:List zK) (k2:Int->Int->Int->Option (Int×Int×Int)) (a1:Int) (a2:Int) (a3:Int):Option (Int×Int×Int) :=
  bif (decide (a1<((p0.length:Nat):Int))) then ((getI p0 a1).bind λa4 =>
  (Uk F a4.When).bind λa0 =>
  (ck (a1+1)).bind λa5 =>
  k2 a5 (if a0.1>a2 then a0.1 else a2) (if a0.2>a3 then a0.2 else a3)) else (Sf a2 a3)
def Pp (F:Nat) (p0:List zK):Nat->Int->Int->Int->Option (Int×Int×Int)
  | 0,_,_,_=>none
  | n+1,a0,a1,a2=>Se F p0 (Pp F p0 n) a0 a1 a2
def W0 (F:Nat) (p0:List zK):Option (Int×Int×Int) :=
  (Mz F p0).bind λy5 =>
  bif (y5 != 0) then (some (0,0,y5)) else (Pp F p0 F 0 0 0)
abbrev Dn:=zA->Option zA
abbrev Cx:=zA->Option zA
def Nm (a0:List zA):Option (List zA) :=
  some a0
def Nl (s68_:Dn) (p0:zA) (k2:Int->List zA->Option (List zA)) (a0:Int) (a1:List zA):Option (List zA) :=
  bif (decide (a0<((p0.Args.length:Nat):Int))) then ((getI p0.Args a0).bind λa3 =>
  (s68_ a3).bind λa5 =>
  (apd 56 a1 ([a5])).bind λa2 =>
  (ck (a0+1)).bind λa4 =>
  k2 a4 a2) else (Nm a1)
def Le (s68_:Dn) (p0:zA):Nat->Int->List zA->Option (List zA)
  | 0,_,_=>none
  | n+1,a1,a0=>Nl s68_ p0 (Le s68_ p0 n) a1 a0
def Nk (F:Nat) (s68_:Dn) (s102_:Cx) (p0:zA):Option (List zA) :=
  Le s68_ p0 F 0 ([])
def Te (F:Nat) (s68_:Dn) (s102_:Cx) (p0:zA):Option zA :=
  bif (p0.Op==3) then ((getI p0.Args 0).bind λu8 =>
  bif (decide (u8.Op<8)) then ((getI p0.Args 0).bind λa0 =>
  (s102_ a0).bind λa1 =>
  some a1) else ((Nk F s68_ s102_ p0).bind λa2 =>
  some (zA.mk p0.Op p0.Value_ p0.Rays p0.Gates a2))) else ((Nk F s68_ s102_ p0).bind λa3 =>
  some (zA.mk p0.Op p0.Value_ p0.Rays p0.Gates a3))
def N3 (a0:List zA):Option (List zA) :=
  some a0
def N0 (s102_:Cx) (p0:zA) (k2:Int->List zA->Option (List zA)) (a0:Int) (a1:List zA):Option (List zA) :=
  bif (decide (a0<((p0.Args.length:Nat):Int))) then ((getI p0.Args a0).bind λa3 =>
  (s102_ a3).bind λa5 =>
  (apd 56 a1 ([a5])).bind λa2 =>
  (ck (a0+1)).bind λa4 =>
  k2 a4 a2) else (N3 a1)
def Kb (s102_:Cx) (p0:zA):Nat->Int->List zA->Option (List zA)
  | 0,_,_=>none
  | n+1,a1,a0=>N0 s102_ p0 (Kb s102_ p0 n) a1 a0
def Q2 (F:Nat) (s68_:Dn) (s102_:Cx) (p0:zA):Option (List zA) :=
  Kb s102_ p0 F 0 ([])
def R2 (F:Nat) (s68_:Dn) (s102_:Cx) (p0:zA):Option zA :=
  bif (p0.Op==3) then ((getI p0.Args 0).bind λu7 =>
  (s68_ u7).bind λa1 =>
  some a1) else (bif (decide (p0.Op>=8)) then ((s68_ p0).bind λa2 =>
  some (zA.mk 3 0 0 0 ([a2]))) else ((A0z (⟨[(0:Int),3,3,(0:Int),1,1,1,1],rfl⟩:Qc Int 8) p0.Op).bind λa0 =>
  (Q2 F s68_ s102_ (zA.mk (A2p .i64 p0.Op a0) p0.Value_ p0.Rays p0.Gates p0.Args)).bind λa3 =>
  some (zA.mk (A2p .i64 p0.Op a0) p0.Value_ p0.Rays p0.Gates a3)))
def Cy:Nat->Dn×Cx
  | 0=>(λ_=>none,λ_=>none)
  | F+1=>(Te F (Cy F).1 (Cy F).2,R2 F (Cy F).1 (Cy F).2)
def Zk (F:Nat):Dn:=(Cy F).1
def Sb (a0:List zK):Option ((List zK)×Int) :=
  some (a0,0)
def Sa (F:Nat) (p0:List zK) (k2:Int->List zK->Option ((List zK)×Int)) (a0:Int) (a1:List zK):Option ((List zK)×Int) :=
  bif (decide (a0<((p0.length:Nat):Int))) then ((getI p0 a0).bind λa2 =>
  (Zk F a2.When).bind λa5 =>
  (apd 72 a1 ([(zK.mk a2.Name a5)])).bind λa3 =>
  (ck (a0+1)).bind λa4 =>
  k2 a4 a3) else (Sb a1)
def Pn (F:Nat) (p0:List zK):Nat->Int->List zK->Option ((List zK)×Int)
  | 0,_,_=>none
  | n+1,a1,a0=>Sa F p0 (Pn F p0 n) a1 a0
def Vz (F:Nat) (p0:List zK):Option ((List zK)×Int) :=
  (Mz F p0).bind λy5 =>
  bif (y5 != 0) then (some (([]:(List zK)),y5)) else (Pn F p0 F 0 ([]))
def As (p0:Int) (p1:Int) (p2:Int):Bool :=
  bif (decide (p1<=p0)) then (decide (p0<=p2)) else false
def Cp (c4:Bool):Option Int :=
  bif c4 then (some 3) else (some 0)
def D5 (p0:zM) (c3:Bool):Option Int :=
  bif c3 then (some 3) else (bif (!(As p0.Rose 1 90)) then (Cp (!(As p0.Rose 1 90))) else (bif (!(As p0.Gates 1 200)) then (Cp (!(As p0.Gates 1 200))) else (bif (!(As p0.Step 50 2000)) then (Cp (!(As p0.Step 50 2000))) else (Cp (!(As p0.Width 0 8))))))
def Cs (F:Nat) (p0:zM):Option Int :=
  (beam_Name F p0.Name).bind λy2 =>
  bif (!y2) then (some 10) else (bif (!(As p0.X (-1048576) 1048576)) then (D5 p0 (!(As p0.X (-1048576) 1048576))) else (bif (!(As p0.Y (-1048576) 1048576)) then (D5 p0 (!(As p0.Y (-1048576) 1048576))) else (D5 p0 (!(As p0.Z 0 20000)))))
def B3 (p0:Int) (p1:Int) (p2:Int):Bool :=
  bif (decide (p1<=p0)) then (decide (p0<=p2)) else false
def Aw (p0:zC) (p1:Int) (p2:Int):Bool :=
  bif (bif (decide (p1<=p0.Lo)) then (decide (p0.Lo<=p0.Hi)) else false) then (decide (p0.Hi<=p2)) else false
def P1:Option Bool :=
  some true
def Ee (p0:List zC) (k2:Int->Option Bool) (a1:Int):Option Bool :=
  bif (decide (a1<((p0.length:Nat):Int))) then ((getI p0 a1).bind λa0 =>
  (gd (((!(B3 a0.Lo (-32768) 32767))==false&&true)) (ck (a0.Lo+65536)) 0).bind λa2 =>
  (gd (((!(B3 a0.Lo (-32768) 32767))==false&&true)) (ck (a2-1)) 0).bind λa3 =>
  bif (bif (!(B3 a0.Lo (-32768) 32767)) then true else (!(B3 a0.Hi a0.Lo a3))) then (some false) else ((ck (a1+1)).bind λa4 =>
  k2 a4)) else (P1)
def Fk (p0:List zC):Nat->Int->Option Bool
  | 0,_=>none
  | n+1,a0=>Ee p0 (Fk p0 n) a0
def Pa (F:Nat) (p0:List zC):Option Bool :=
  Fk p0 F 0
def Di (c7:Bool):Option Int :=
  bif (!c7) then (some 3) else (some 0)
def Hj (F:Nat) (p0:zJ) (c9:Bool):Option Int :=
  bif c9 then (bif (p0.Kind==2) then (Di (bif (bif (bif (bif (bif (bif (Aw p0.Power 0 1073741824) then (decide (p0.Power.Lo>0)) else false) then (Aw p0.Ratio 0 1000000) else false) then (Aw p0.Match 0 1000) else false) then (B3 p0.Spread 0 65535) else false) then ((((p0.Steps.1.Lo:Int)==0)&&(((p0.Steps.1.Hi:Int)==0)&&true))&&((((p0.Steps.2.Lo:Int)==0)&&(((p0.Steps.2.Hi:Int)==0)&&true))&&true)) else false) then (((p0.Turn.Lo:Int)==0)&&(((p0.Turn.Hi:Int)==0)&&true)) else false)) else (bif (bif (bif (bif (bif (Aw p0.Power 0 1073741824) then (decide (p0.Power.Lo>0)) else false) then (Aw p0.Ratio 0 1000000) else false) then (Aw p0.Match 0 1000) else false) then (B3 p0.Spread 0 65535) else false) then ((Pa F ([(zC.mk p0.Steps.1.Lo p0.Steps.1.Hi),(zC.mk p0.Steps.2.Lo p0.Steps.2.Hi),p0.Turn])).bind λa0 =>
  Di a0) else (Di false))) else (some 2)
def Kp (F:Nat) (p0:zJ):Option Int :=
  bif (p0.Kind==1) then (Di (bif (Aw p0.Power 0 1073741824) then (((p0.Kind:Int)==1)&&((((p0.Power.Lo:Int)==0)&&(((p0.Power.Hi:Int)==p0.Power.Hi)&&true))&&(((((p0.Steps.1.Lo:Int)==0)&&(((p0.Steps.1.Hi:Int)==0)&&true))&&((((p0.Steps.2.Lo:Int)==0)&&(((p0.Steps.2.Hi:Int)==0)&&true))&&true))&&(((p0.Spread:Int)==0)&&((((p0.Ratio.Lo:Int)==0)&&(((p0.Ratio.Hi:Int)==0)&&true))&&((((p0.Match.Lo:Int)==0)&&(((p0.Match.Hi:Int)==0)&&true))&&((((p0.Turn.Lo:Int)==0)&&(((p0.Turn.Hi:Int)==0)&&true))&&true))))))) else false)) else (bif (p0.Kind==2) then (Hj F p0 (p0.Kind==2)) else (Hj F p0 (p0.Kind==3)))
def Me:Option Int :=
  some 0
def Jb (a0:Int) (k3:Int->Option Int):Option Int :=
  (ck (a0+1)).bind λa1 =>
  k3 a1
def Dp (F:Nat) (a4:Int) (k3:Int->Option Int) (a2:List zJ) (k5:Int->Option Int) (a1:Int):Option Int :=
  bif (decide (a1<((a2.length:Nat):Int))) then ((getI a2 a1).bind λa0 =>
  (Kp F (zJ.mk a0.Kind a0.Power ((zC.mk a0.Steps.1.Lo a0.Steps.1.Hi),(zC.mk a0.Steps.2.Lo a0.Steps.2.Hi)) a0.Spread a0.Ratio a0.Match a0.Turn)).bind λa3 =>
  bif (a3 != 0) then (some a3) else ((ck (a1+1)).bind λa5 =>
  k5 a5)) else (Jb a4 k3)
def Dr (F:Nat) (a1:Int) (k3:Int->Option Int) (a0:List zJ):Nat->Int->Option Int
  | 0,_=>none
  | n+1,a2=>Dp F a1 k3 a0 (Dr F a1 k3 a0 n) a2
def Do (F:Nat) (p0:zG) (k3:Int->Option Int) (a0:Int):Option Int :=
  bif (decide (a0<((p0.Rays.length:Nat):Int))) then ((getI p0.Rays a0).bind λa1 =>
  Dr F a0 k3 a1 F 0) else (Me)
def D2 (F:Nat) (p0:zG):Nat->Int->Option Int
  | 0,_=>none
  | n+1,a0=>Do F p0 (D2 F p0 n) a0
def Ja (F:Nat) (p0:zG):Option Int :=
  D2 F p0 F 0
def Dq (F:Nat) (p0:zG) (k6:Int->Option Int) (a0:Int):Option Int :=
  bif (decide (a0<((p0.Rays.length:Nat):Int))) then ((getI p0.Rays a0).bind λa1 =>
  bif (((a1.length:Nat):Int) != p0.Site.Gates) then (some 11) else ((ck (a0+1)).bind λa2 =>
  k6 a2)) else (Ja F p0)
def Dt (F:Nat) (p0:zG):Nat->Int->Option Int
  | 0,_=>none
  | n+1,a0=>Dq F p0 (Dt F p0 n) a0
def C5 (F:Nat) (p0:zG):Option Int :=
  (Cs F p0.Site).bind λy6 =>
  bif (y6 != 0) then (some y6) else (bif (bif (!(B3 p0.Tilt 0 256)) then true else (!(B3 p0.Time 0 4294967296))) then (some 3) else ((ck (4*p0.Site.Rose)).bind λx7 =>
  bif (((p0.Rays.length:Nat):Int) != x7) then (some 11) else (Dt F p0 F 0)))
def Gr (F:Nat) (p0:zG):Option zF :=
  (ck (((p0.Rays.length:Nat):Int)*p0.Site.Gates)).bind λx6 =>
  some (zF.mk p0 x6 ([]:List (ByteArray×(List Int))) ([]:List (ByteArray×(List zD))))
def Q0 (F:Nat) (p0:Option zF) (p1:zA):Option (List Int) :=
  (p0).bind λd8 =>
  (mkI 8 d8.n 0).bind λa0 =>
  some a0
def Fi (F:Nat) (p0:Int) (c0_:zA):Option Int :=
  (getI ([0,1,3]) c0_.Op).bind λu6 =>
  some u6
def Kd (a0:List Int):Option (List Int) :=
  some a0
def Kc (F:Nat) (c1_0_:zA) (k2:Int->Int->List Int->Option (List Int)) (a2:Int) (a0:Int) (a1:List Int):Option (List Int) :=
  bif (decide (a0<a2)) then ((Fi F a0 c1_0_).bind λa5 =>
  (getI a1 a0).bind λa6 =>
  (Ni a1 a0 a5).bind λa3 =>
  (ck (a0+1)).bind λa4 =>
  k2 a2 a4 a3) else (Kd a1)
def F1 (F:Nat) (c1_0_:zA):Nat->Int->Int->List Int->Option (List Int)
  | 0,_,_,_=>none
  | n+1,a1,a2,a0=>Kc F c1_0_ (F1 F c1_0_ n) a1 a2 a0
def Je (F:Nat) (p0:Int) (c1_0_:zA):Option (List Int) :=
  (mkI 8 p0 0).bind λl6 =>
  F1 F c1_0_ F ((l6.length:Nat):Int) 0 l6
def Fh (F:Nat) (p0:Option zF) (p1:zA):Option (List Int) :=
  (p0).bind λd8 =>
  (Je F d8.n p1).bind λa0 =>
  some a0
def Gx (F:Nat) (p0:Int) (c0_:List Int):Option Int :=
  (getI c0_ p0).bind λu4 =>
  (ck (4-u4)).bind λx5 =>
  some x5
def G2 (F:Nat) (p0:Int) (c0_:zA) (c1_:List Int) (c2_:List Int):Option Int :=
  bif (c0_.Op==4) then ((getI c1_ p0).bind λa0 =>
  (getI c2_ p0).bind λa1 =>
  some (if a1>a0 then a1 else a0)) else ((getI c1_ p0).bind λa2 =>
  (getI c2_ p0).bind λa3 =>
  some (if a3<a2 then a3 else a2))
def Ew {σ:Type} (a1:Int) (k2:Int->σ->Option (σ×Bool)) (a0:σ):Option (σ×Bool) :=
  (ck (a1+1)).bind λa2 =>
  k2 a2 a0
def Eu {σ:Type} (body:σ->Int->Option (σ×Bool)) (c1_:Int) (c3_:Int) (d3:zF) (a7:Int) (a3:Int) (k2:Int->σ->Option (σ×Bool)) (k4:Int->σ->Option (σ×Bool)) (a0:Int) (a2:σ):Option (σ×Bool) :=
  (ck (d3.s.Site.Gates-1)).bind λa4 =>
  (ck (a7+c3_)).bind λa5 =>
  bif (decide (a0<=(if a5<a4 then a5 else a4))) then ((ck (a3+((d3.s.Rays.length:Nat):Int))).bind λa8 =>
  (Ug a8 ((d3.s.Rays.length:Nat):Int)).bind λa9 =>
  (ck (a9*d3.s.Site.Gates)).bind λaA =>
  (ck (aA+a0)).bind λa6 =>
  bif (a6 != c1_) then ((body a2 a6).bind λa1 =>
  bif a1.2 then ((ck (a0+1)).bind λaB =>
  k4 aB a1.1) else (some (a1.1,false))) else ((ck (a0+1)).bind λaC =>
  k4 aC a2)) else (Ew a3 k2 a2)
def Dl {σ:Type} (body:σ->Int->Option (σ×Bool)) (c1_:Int) (c3_:Int) (d3:zF) (a0:Int) (a1:Int) (k2:Int->σ->Option (σ×Bool)):Nat->Int->σ->Option (σ×Bool)
  | 0,_,_=>none
  | n+1,a3,a2=>Eu body c1_ c3_ d3 a0 a1 k2 (Dl body c1_ c3_ d3 a0 a1 k2 n) a3 a2
def Et {σ:Type} (F:Nat) (body:σ->Int->Option (σ×Bool)) (c1_:Int) (c3_:Int) (d3:zF) (a1:Int) (a4:Int) (k2:Int->σ->Option (σ×Bool)) (a2:Int) (a0:σ):Option (σ×Bool) :=
  bif (decide (a2<=a4)) then ((ck (a1-c3_)).bind λa3 =>
  Dl body c1_ c3_ d3 a1 a2 k2 F (if a3>0 then a3 else 0) a0) else (some (a0,true))
def Cr {σ:Type} (F:Nat) (body:σ->Int->Option (σ×Bool)) (c1_:Int) (c3_:Int) (d3:zF) (a0:Int) (a1:Int):Nat->Int->σ->Option (σ×Bool)
  | 0,_,_=>none
  | n+1,a3,a2=>Et F body c1_ c3_ d3 a0 a1 (Cr F body c1_ c3_ d3 a0 a1 n) a3 a2
def Ev {σ:Type} (F:Nat) (body:σ->Int->Option (σ×Bool)) (s_:σ) (c1_:Int) (c3_:Int) (d3:zF) (a0:Int) (a1:Int) (a2:Int):Option (σ×Bool) :=
  Cr F body c1_ c3_ d3 a0 a2 F a1 s_
def F6 {σ:Type} (F:Nat) (c0_:Option zF) (c1_:Int) (c2_:Int) (c3_:Int) (body:σ->Int->Option (σ×Bool)) (s_:σ):Option (σ×Bool) :=
  (c0_).bind λd3 =>
  (Zu c1_ d3.s.Site.Gates).bind λa0 =>
  (Ug c1_ d3.s.Site.Gates).bind λa1 =>
  (ck (a0-c2_)).bind λa2 =>
  (ck (a0+c2_)).bind λa3 =>
  (ck (a3-a2)).bind λa4 =>
  bif (decide (a4>=((d3.s.Rays.length:Nat):Int))) then ((ck (((d3.s.Rays.length:Nat):Int)-1)).bind λa5 =>
  Ev F body s_ c1_ c3_ d3 a1 0 a5) else (Ev F body s_ c1_ c3_ d3 a1 a2 a3)
def Rh (p0:Option zF) (p1:Int) (p2:Int) (p3:Int):Unit :=
  ()
def Hu (c0_:zA) (c2_:List Int) (s_r:Int×Nat) (x_:Int):Option ((Int×Nat)×Bool) :=
  bif (c0_.Op==6) then ((getI c2_ x_).bind λa0 =>
  some ((if a0<s_r.1 then a0 else s_r.1,0),true)) else ((getI c2_ x_).bind λa1 =>
  some ((if a1>s_r.1 then a1 else s_r.1,0),true))
def Ll (tg_:Nat):Code:=.ret
def Ed (F:Nat) (p0:Int) (c0_:zA) (c1_:Option zF) (c2_:List Int) (a1:Int):Option Int :=
  (F6 F c1_ p0 c0_.Rays c0_.Gates (Hu c0_ c2_) (a1,0)).bind λa0 =>
  bif a0.2 then (some a0.1.1) else (none)
def G3 (F:Nat) (p0:Int) (c0_:zA) (c1_:Option zF) (c2_:List Int):Option Int :=
  bif (c0_.Op==7) then (Ed F p0 c0_ c1_ c2_ 1) else (Ed F p0 c0_ c1_ c2_ 3)
def Ab (p0:Int):zD :=
  (zD.mk (zC.mk p0 p0) true)
def Fg (F:Nat) (p0:Int) (c0_:Option zF) (c1_:zA):Option zD :=
  (c0_).bind λd8 =>
  (Zu p0 d8.s.Site.Gates).bind λa2 =>
  (getI d8.s.Rays a2).bind λa1 =>
  (Ug p0 d8.s.Site.Gates).bind λa3 =>
  (getI a1 a3).bind λa0 =>
  bif (c1_.Op==14) then (some (Ab c1_.Value_)) else (bif (c1_.Op==21) then (some (Ab a0.Kind)) else (bif (c1_.Op==22) then ((Zu p0 d8.s.Site.Gates).bind λa4 =>
  some (Ab a4)) else (bif (c1_.Op==23) then ((Ug p0 d8.s.Site.Gates).bind λa5 =>
  some (Ab a5)) else (bif (c1_.Op==24) then (some (Ab d8.s.Tilt)) else (bif (c1_.Op==15) then (some (zD.mk a0.Power true)) else (bif (a0.Kind==1) then (some (zD.mk (zC.mk 0 0) false)) else (bif (c1_.Op==16) then (some (zD.mk a0.Ratio true)) else (bif (c1_.Op==17) then (some (zD.mk a0.Match true)) else (bif (c1_.Op==18) then (some (Ab a0.Spread)) else (bif (a0.Kind==2) then (some (zD.mk (zC.mk 0 0) false)) else (bif (c1_.Op==19) then (some (zD.mk a0.Turn true)) else (some (zD.mk (zC.mk a0.Steps.1.Lo a0.Steps.1.Hi) true)))))))))))))
def Gl (a0:List zD):Option (List zD) :=
  some a0
def Gk (F:Nat) (c1_0_:Option zF) (c1_1_:zA) (k2:Int->Int->List zD->Option (List zD)) (a2:Int) (a0:Int) (a1:List zD):Option (List zD) :=
  bif (decide (a0<a2)) then ((Fg F a0 c1_0_ c1_1_).bind λa5 =>
  (getI a1 a0).bind λa6 =>
  (Ni a1 a0 a5).bind λa3 =>
  (ck (a0+1)).bind λa4 =>
  k2 a2 a4 a3) else (Gl a1)
def Db (F:Nat) (c1_0_:Option zF) (c1_1_:zA):Nat->Int->Int->List zD->Option (List zD)
  | 0,_,_,_=>none
  | n+1,a1,a2,a0=>Gk F c1_0_ c1_1_ (Db F c1_0_ c1_1_ n) a1 a2 a0
def Fq (F:Nat) (p0:Int) (c1_0_:Option zF) (c1_1_:zA):Option (List zD) :=
  (mkI 24 p0 (zD.mk (zC.mk 0 0) false)).bind λl8 =>
  Db F c1_0_ c1_1_ F ((l8.length:Nat):Int) 0 l8
def Ff (F:Nat) (p0:Option zF) (p1:zA):Option (List zD) :=
  (p0).bind λd9 =>
  (Fq F d9.n (some (zF.mk d9.s d9.n ([]:(List (ByteArray×(List Int)))) ([]:(List (ByteArray×(List zD)))))) p1).bind λa0 =>
  some a0
def E4 (c2_:List Int) (s_r:Int×Int×Nat) (x_:Int) (a0:Int):Option ((Int×Int×Nat)×Bool) :=
  (getI c2_ x_).bind λa1 =>
  bif (a1 != 3) then ((ck (s_r.2.1+1)).bind λa2 =>
  some ((a0,a2,0),true)) else (some ((a0,s_r.2.1,0),true))
def Ho (c2_:List Int) (s_r:Int×Int×Nat) (x_:Int):Option ((Int×Int×Nat)×Bool) :=
  (getI c2_ x_).bind λa0 =>
  bif (a0==1) then ((ck (s_r.1+1)).bind λa1 =>
  E4 c2_ s_r x_ a1) else (E4 c2_ s_r x_ s_r.1)
def L4 (tg_:Nat):Code:=.ret
def Fe (F:Nat) (p0:Int) (c0_:Option zF) (c1_:zA) (c2_:List Int):Option zD :=
  (F6 F c0_ p0 c1_.Rays c1_.Gates (Ho c2_) (0,0,0)).bind λa0 =>
  bif a0.2 then (some (zD.mk (zC.mk a0.1.1 a0.1.2.1) true)) else (none)
def Ge (a0:zD) (a1:Int) (a2:Int):Option zD :=
  (ck (a0.span.Lo+a1)).bind λa3 =>
  (ck (a0.span.Hi+a2)).bind λa4 =>
  some (zD.mk (zC.mk a3 a4) true)
def Gy (F:Nat) (p0:Int) (c0_:List zD) (c1_:List zD) (c2_:zA):Option zD :=
  (getI c0_ p0).bind λa1 =>
  (gd (((!a1.has)==false&&true)) (getI c1_ p0) default).bind λa3 =>
  bif (bif (!a1.has) then true else (!a3.has)) then (some (zD.mk (zC.mk 0 0) false)) else ((getI c0_ p0).bind λa2 =>
  (getI c1_ p0).bind λa0 =>
  bif (c2_.Op==27) then (Ge a2 (IntKind.i64.wrap (0-a0.span.Hi)) (IntKind.i64.wrap (0-a0.span.Lo))) else (Ge a2 a0.span.Lo a0.span.Hi))
def Br (a0:Bool) (a1:Bool):Option Int :=
  bif a0 then (some 1) else (bif a1 then (some 2) else (some 3))
def Ec (c2_:zA) (a0:Int) (a1:Int) (a2:Int) (a3:Int) (a4:Bool):Option Int :=
  bif a4 then (Br (decide (a1<=a2)) (decide (a0<=a3))) else (bif (c2_.Op==12) then (Br ((if a3>a1 then a3 else a1)==(if a2<a0 then a2 else a0)) (bif (decide (a0<=a3)) then (decide (a2<=a1)) else false)) else (bif (c2_.Op==13) then (Br (bif (decide (a1<a2)) then true else (decide (a3<a0))) ((if a3>a1 then a3 else a1) != (if a2<a0 then a2 else a0))) else (Br false false)))
def Eb (c2_:zA) (a0:Int) (a1:Int) (a2:Int) (a3:Int) (a4:Bool):Option Int :=
  bif a4 then (Br (decide (a1<a2)) (decide (a0<a3))) else (bif (c2_.Op==9) then (Ec c2_ a0 a1 a2 a3 (c2_.Op==9)) else (Ec c2_ a0 a1 a2 a3 (c2_.Op==11)))
def De (c2_:zA) (a0:Int) (a1:Int) (a2:Int) (a3:Int):Option Int :=
  bif (c2_.Op==8) then (Eb c2_ a0 a1 a2 a3 (c2_.Op==8)) else (Eb c2_ a0 a1 a2 a3 (c2_.Op==10))
def Ea (F:Nat) (p0:Int) (c0_:List zD) (c1_:List zD) (c2_:zA):Option Int :=
  (getI c0_ p0).bind λa2 =>
  (gd (((!a2.has)==false&&true)) (getI c1_ p0) default).bind λa3 =>
  bif (bif (!a2.has) then true else (!a3.has)) then (some 3) else ((getI c0_ p0).bind λa0 =>
  (getI c1_ p0).bind λa1 =>
  bif (bif (c2_.Op==10) then true else (c2_.Op==11)) then (De c2_ a1.span.Lo a1.span.Hi a0.span.Lo a0.span.Hi) else (De c2_ a0.span.Lo a0.span.Hi a1.span.Lo a1.span.Hi))
abbrev Ap:=zF->zA->Option ((List Int)×zF)
abbrev Am:=zF->zA->Option ((List zD)×zF)
def Kf (a0:List Int):Option (List Int) :=
  some a0
def Ke (F:Nat) (c1_0_:List Int) (k2:Int->Int->List Int->Option (List Int)) (a2:Int) (a0:Int) (a1:List Int):Option (List Int) :=
  bif (decide (a0<a2)) then ((Gx F a0 c1_0_).bind λa5 =>
  (getI a1 a0).bind λa6 =>
  (Ni a1 a0 a5).bind λa3 =>
  (ck (a0+1)).bind λa4 =>
  k2 a2 a4 a3) else (Kf a1)
def F2 (F:Nat) (c1_0_:List Int):Nat->Int->Int->List Int->Option (List Int)
  | 0,_,_,_=>none
  | n+1,a1,a2,a0=>Ke F c1_0_ (F2 F c1_0_ n) a1 a2 a0
def Jf (F:Nat) (s76_:Ap) (s84_:Am) (p0:Int) (c1_0_:List Int):Option (List Int) :=
  (mkI 8 p0 0).bind λl5 =>
  F2 F c1_0_ F ((l5.length:Nat):Int) 0 l5
def Jl (F:Nat) (s76_:Ap) (s84_:Am) (p0:zF) (p1:zA):Option ((List Int)×zF) :=
  (getI p1.Args 0).bind λa1 =>
  (s76_ p0 a1).bind λa0 =>
  (Jf F s76_ s84_ p0.n a0.1).bind λa2 =>
  some (a2,(zF.mk p0.s p0.n a0.2.tests a0.2.values))
def Kh (a0:List Int):Option (List Int) :=
  some a0
def Kg (F:Nat) (c1_0_:zA) (c1_1_:List Int) (c1_2_:List Int) (k2:Int->Int->List Int->Option (List Int)) (a2:Int) (a0:Int) (a1:List Int):Option (List Int) :=
  bif (decide (a0<a2)) then ((G2 F a0 c1_0_ c1_1_ c1_2_).bind λa5 =>
  (getI a1 a0).bind λa6 =>
  (Ni a1 a0 a5).bind λa3 =>
  (ck (a0+1)).bind λa4 =>
  k2 a2 a4 a3) else (Kh a1)
def F3 (F:Nat) (c1_0_:zA) (c1_1_:List Int) (c1_2_:List Int):Nat->Int->Int->List Int->Option (List Int)
  | 0,_,_,_=>none
  | n+1,a1,a2,a0=>Kg F c1_0_ c1_1_ c1_2_ (F3 F c1_0_ c1_1_ c1_2_ n) a1 a2 a0
def Jg (F:Nat) (s76_:Ap) (s84_:Am) (p0:Int) (c1_0_:zA) (c1_1_:List Int) (c1_2_:List Int):Option (List Int) :=
  (mkI 8 p0 0).bind λa0 =>
  F3 F c1_0_ c1_1_ c1_2_ F ((a0.length:Nat):Int) 0 a0
def G7 (F:Nat) (s76_:Ap) (s84_:Am) (p0:zF) (p1:zA):Option ((List Int)×zF) :=
  (getI p1.Args 0).bind λa2 =>
  (getI p1.Args 1).bind λa3 =>
  (s76_ p0 a2).bind λa0 =>
  (s76_ (zF.mk p0.s p0.n a0.2.tests a0.2.values) a3).bind λa1 =>
  (Jg F s76_ s84_ p0.n p1 a0.1 a1.1).bind λa4 =>
  some (a4,(zF.mk p0.s p0.n a1.2.tests a1.2.values))
def Kj (a0:List Int):Option (List Int) :=
  some a0
def Ki (F:Nat) (c1_0_:zA) (c1_1_:Option zF) (c1_2_:List Int) (k2:Int->Int->List Int->Option (List Int)) (a2:Int) (a0:Int) (a1:List Int):Option (List Int) :=
  bif (decide (a0<a2)) then ((G3 F a0 c1_0_ c1_1_ c1_2_).bind λa5 =>
  (getI a1 a0).bind λa6 =>
  (Ni a1 a0 a5).bind λa3 =>
  (ck (a0+1)).bind λa4 =>
  k2 a2 a4 a3) else (Kj a1)
def F4 (F:Nat) (c1_0_:zA) (c1_1_:Option zF) (c1_2_:List Int):Nat->Int->Int->List Int->Option (List Int)
  | 0,_,_,_=>none
  | n+1,a1,a2,a0=>Ki F c1_0_ c1_1_ c1_2_ (F4 F c1_0_ c1_1_ c1_2_ n) a1 a2 a0
def Jh (F:Nat) (s76_:Ap) (s84_:Am) (p0:Int) (c1_0_:zA) (c1_1_:Option zF) (c1_2_:List Int):Option (List Int) :=
  (mkI 8 p0 0).bind λa0 =>
  F4 F c1_0_ c1_1_ c1_2_ F ((a0.length:Nat):Int) 0 a0
def G8 (F:Nat) (s76_:Ap) (s84_:Am) (p0:zF) (p1:zA):Option ((List Int)×zF) :=
  (getI p1.Args 0).bind λa1 =>
  (s76_ p0 a1).bind λa0 =>
  (Jh F s76_ s84_ p0.n p1 (some (zF.mk p0.s p0.n a0.2.tests a0.2.values)) a0.1).bind λa2 =>
  some (a2,(zF.mk p0.s p0.n a0.2.tests a0.2.values))
def Kl (a0:List Int):Option (List Int) :=
  some a0
def Kk (F:Nat) (c1_0_:List zD) (c1_1_:List zD) (c1_2_:zA) (k2:Int->Int->List Int->Option (List Int)) (a2:Int) (a0:Int) (a1:List Int):Option (List Int) :=
  bif (decide (a0<a2)) then ((Ea F a0 c1_0_ c1_1_ c1_2_).bind λa5 =>
  (getI a1 a0).bind λa6 =>
  (Ni a1 a0 a5).bind λa3 =>
  (ck (a0+1)).bind λa4 =>
  k2 a2 a4 a3) else (Kl a1)
def F5 (F:Nat) (c1_0_:List zD) (c1_1_:List zD) (c1_2_:zA):Nat->Int->Int->List Int->Option (List Int)
  | 0,_,_,_=>none
  | n+1,a1,a2,a0=>Kk F c1_0_ c1_1_ c1_2_ (F5 F c1_0_ c1_1_ c1_2_ n) a1 a2 a0
def Ji (F:Nat) (s76_:Ap) (s84_:Am) (p0:Int) (c1_0_:List zD) (c1_1_:List zD) (c1_2_:zA):Option (List Int) :=
  (mkI 8 p0 0).bind λa0 =>
  F5 F c1_0_ c1_1_ c1_2_ F ((a0.length:Nat):Int) 0 a0
def C4 (F:Nat) (s76_:Ap) (s84_:Am) (p0:zF) (p1:zA):Option ((List Int)×zF) :=
  (getI p1.Args 0).bind λa2 =>
  (getI p1.Args 1).bind λa3 =>
  (s84_ p0 a2).bind λa0 =>
  (s84_ (zF.mk p0.s p0.n a0.2.tests a0.2.values) a3).bind λa1 =>
  (Ji F s76_ s84_ p0.n a0.1 a1.1 p1).bind λa4 =>
  some (a4,(zF.mk p0.s p0.n a1.2.tests a1.2.values))
def Gn (a0:List zD):Option (List zD) :=
  some a0
def Gm (F:Nat) (c1_0_:Option zF) (c1_1_:zA) (c1_2_:List Int) (k2:Int->Int->List zD->Option (List zD)) (a2:Int) (a0:Int) (a1:List zD):Option (List zD) :=
  bif (decide (a0<a2)) then ((Fe F a0 c1_0_ c1_1_ c1_2_).bind λa5 =>
  (getI a1 a0).bind λa6 =>
  (Ni a1 a0 a5).bind λa3 =>
  (ck (a0+1)).bind λa4 =>
  k2 a2 a4 a3) else (Gn a1)
def Dc (F:Nat) (c1_0_:Option zF) (c1_1_:zA) (c1_2_:List Int):Nat->Int->Int->List zD->Option (List zD)
  | 0,_,_,_=>none
  | n+1,a1,a2,a0=>Gm F c1_0_ c1_1_ c1_2_ (Dc F c1_0_ c1_1_ c1_2_ n) a1 a2 a0
def Fs (F:Nat) (s76_:Ap) (s84_:Am) (p0:Int) (c1_0_:Option zF) (c1_1_:zA) (c1_2_:List Int):Option (List zD) :=
  (mkI 24 p0 (zD.mk (zC.mk 0 0) false)).bind λa0 =>
  Dc F c1_0_ c1_1_ c1_2_ F ((a0.length:Nat):Int) 0 a0
def Gw (F:Nat) (s76_:Ap) (s84_:Am) (p0:zF) (p1:zA):Option ((List zD)×zF) :=
  (getI p1.Args 0).bind λa1 =>
  (s76_ p0 a1).bind λa0 =>
  (Fs F s76_ s84_ p0.n (some (zF.mk p0.s p0.n a0.2.tests a0.2.values)) p1 a0.1).bind λa2 =>
  some (a2,(zF.mk p0.s p0.n a0.2.tests a0.2.values))
def Gq (a0:List zD):Option (List zD) :=
  some a0
def Gp (F:Nat) (c1_0_:List zD) (c1_1_:List zD) (c1_2_:zA) (k2:Int->Int->List zD->Option (List zD)) (a2:Int) (a0:Int) (a1:List zD):Option (List zD) :=
  bif (decide (a0<a2)) then ((Gy F a0 c1_0_ c1_1_ c1_2_).bind λa5 =>
  (getI a1 a0).bind λa6 =>
  (Ni a1 a0 a5).bind λa3 =>
  (ck (a0+1)).bind λa4 =>
  k2 a2 a4 a3) else (Gq a1)
def Dd (F:Nat) (c1_0_:List zD) (c1_1_:List zD) (c1_2_:zA):Nat->Int->Int->List zD->Option (List zD)
  | 0,_,_,_=>none
  | n+1,a1,a2,a0=>Gp F c1_0_ c1_1_ c1_2_ (Dd F c1_0_ c1_1_ c1_2_ n) a1 a2 a0
def Ft (F:Nat) (s76_:Ap) (s84_:Am) (p0:Int) (c1_0_:List zD) (c1_1_:List zD) (c1_2_:zA):Option (List zD) :=
  (mkI 24 p0 (zD.mk (zC.mk 0 0) false)).bind λa0 =>
  Dd F c1_0_ c1_1_ c1_2_ F ((a0.length:Nat):Int) 0 a0
def Hh (F:Nat) (s76_:Ap) (s84_:Am) (p0:zF) (p1:zA):Option ((List zD)×zF) :=
  (getI p1.Args 0).bind λa2 =>
  (getI p1.Args 1).bind λa3 =>
  (s84_ p0 a2).bind λa0 =>
  (s84_ (zF.mk p0.s p0.n a0.2.tests a0.2.values) a3).bind λa1 =>
  (Ft F s76_ s84_ p0.n a0.1 a1.1 p1).bind λa4 =>
  some (a4,(zF.mk p0.s p0.n a1.2.tests a1.2.values))
def Be (F:Nat) (s76_:Ap) (s84_:Am) (p0:zF) (p1:zA):Option ((List Int)×zF) :=
  (Dg F p1).bind λa0 =>
  bif ((lkM p0.tests a0).isSome) then (some (((lkM p0.tests a0).getD []),p0)) else (bif (p1.Op==0) then ((Q0 F (some p0) p1).bind λaC =>
  some (aC,(zF.mk p0.s p0.n (upM p0.tests a0 aC) p0.values))) else (bif (p1.Op==1) then ((Fh F (some p0) p1).bind λaD =>
  some (aD,(zF.mk p0.s p0.n (upM p0.tests a0 aD) p0.values))) else (bif (p1.Op==2) then ((Fh F (some p0) p1).bind λaE =>
  some (aE,(zF.mk p0.s p0.n (upM p0.tests a0 aE) p0.values))) else (bif (p1.Op==3) then ((Jl F s76_ s84_ p0 p1).bind λa8 =>
  some (a8.1,(zF.mk p0.s p0.n (upM a8.2.tests a0 a8.1) a8.2.values))) else (bif (p1.Op==4) then ((G7 F s76_ s84_ p0 p1).bind λa9 =>
  some (a9.1,(zF.mk p0.s p0.n (upM a9.2.tests a0 a9.1) a9.2.values))) else (bif (p1.Op==5) then ((G7 F s76_ s84_ p0 p1).bind λaA =>
  some (aA.1,(zF.mk p0.s p0.n (upM aA.2.tests a0 aA.1) aA.2.values))) else (bif (p1.Op==6) then ((G8 F s76_ s84_ p0 p1).bind λaB =>
  some (aB.1,(zF.mk p0.s p0.n (upM aB.2.tests a0 aB.1) aB.2.values))) else (bif (p1.Op==7) then ((G8 F s76_ s84_ p0 p1).bind λa1 =>
  some (a1.1,(zF.mk p0.s p0.n (upM a1.2.tests a0 a1.1) a1.2.values))) else (bif (p1.Op==8) then ((C4 F s76_ s84_ p0 p1).bind λa2 =>
  some (a2.1,(zF.mk p0.s p0.n (upM a2.2.tests a0 a2.1) a2.2.values))) else (bif (p1.Op==9) then ((C4 F s76_ s84_ p0 p1).bind λa3 =>
  some (a3.1,(zF.mk p0.s p0.n (upM a3.2.tests a0 a3.1) a3.2.values))) else (bif (p1.Op==10) then ((C4 F s76_ s84_ p0 p1).bind λa4 =>
  some (a4.1,(zF.mk p0.s p0.n (upM a4.2.tests a0 a4.1) a4.2.values))) else (bif (p1.Op==11) then ((C4 F s76_ s84_ p0 p1).bind λa5 =>
  some (a5.1,(zF.mk p0.s p0.n (upM a5.2.tests a0 a5.1) a5.2.values))) else (bif (p1.Op==12) then ((C4 F s76_ s84_ p0 p1).bind λa6 =>
  some (a6.1,(zF.mk p0.s p0.n (upM a6.2.tests a0 a6.1) a6.2.values))) else (bif (p1.Op==13) then ((C4 F s76_ s84_ p0 p1).bind λa7 =>
  some (a7.1,(zF.mk p0.s p0.n (upM a7.2.tests a0 a7.1) a7.2.values))) else (none)))))))))))))))
def Bw (F:Nat) (s76_:Ap) (s84_:Am) (p0:zF) (p1:zA):Option ((List zD)×zF) :=
  (Dg F p1).bind λa0 =>
  bif ((lkM p0.values a0).isSome) then (some (((lkM p0.values a0).getD []),p0)) else (bif (p1.Op==25) then ((Gw F s76_ s84_ p0 p1).bind λa1 =>
  some (a1.1,(zF.mk p0.s p0.n a1.2.tests (upM a1.2.values a0 a1.1)))) else (bif (p1.Op==26) then (bif (p1.Op==26) then ((Hh F s76_ s84_ p0 p1).bind λa2 =>
  some (a2.1,(zF.mk p0.s p0.n a2.2.tests (upM a2.2.values a0 a2.1)))) else ((Ff F (some p0) p1).bind λa4 =>
  some (a4,(zF.mk p0.s p0.n p0.tests (upM p0.values a0 a4))))) else (bif (p1.Op==27) then ((Hh F s76_ s84_ p0 p1).bind λa3 =>
  some (a3.1,(zF.mk p0.s p0.n a3.2.tests (upM a3.2.values a0 a3.1)))) else ((Ff F (some p0) p1).bind λa5 =>
  some (a5,(zF.mk p0.s p0.n p0.tests (upM p0.values a0 a5)))))))
def Bk:Nat->Ap×Am
  | 0=>(λ_ _=>none,λ_ _=>none)
  | F+1=>(Be F (Bk F).1 (Bk F).2,Bw F (Bk F).1 (Bk F).2)
def F8 (F:Nat):Ap:=(Bk F).1
def Fj (F:Nat):Am:=(Bk F).2
def S7 (a0:List (List zL)):Option ((List (List zL))×Int) :=
  some (a0,0)
def S8 (a1:Int) (k3:List (List zL)->Int->Option ((List (List zL))×Int)) (a0:List (List zL)):Option ((List (List zL))×Int) :=
  (ck (a1+1)).bind λa2 =>
  k3 a0 a2
def S9 (a1:Int) (k5:List (List zL)->Int->Option ((List (List zL))×Int)) (a0:List (List zL)):Option ((List (List zL))×Int) :=
  (ck (a1+1)).bind λa2 =>
  k5 a0 a2
def Pi (a1:Int) (a0:List (List zL)) (a6:Int) (k5:List (List zL)->Int->Option ((List (List zL))×Int)) (a7:Int) (a2:List Int):Option ((List (List zL))×Int) :=
  (getI a0 a1).bind λa5 =>
  (apd 32 a5 ([(zL.mk a7 a2)])).bind λa3 =>
  (getI a0 a1).bind λa8 =>
  (Ni a0 a1 a3).bind λa4 =>
  S9 a6 k5 a4
def Pj (a1:Int) (k8:List Int->Int->Option ((List (List zL))×Int)) (a0:List Int):Option ((List (List zL))×Int) :=
  (ck (a1+1)).bind λa2 =>
  k8 a0 a2
def S5 (a4:List (List Int)) (a2:Int) (a8:List zJ) (a5:List (List zL)) (a3:Int) (k5:List (List zL)->Int->Option ((List (List zL))×Int)) (k8:List Int->Int->Option ((List (List zL))×Int)) (a1:List Int) (a0:Int):Option ((List (List zL))×Int) :=
  bif (decide (a0<((a4.length:Nat):Int))) then ((getI a4 a0).bind λa9 =>
  (ck (a2*((a8.length:Nat):Int))).bind λaA =>
  (ck (aA+a3)).bind λaB =>
  (getI a9 aB).bind λa6 =>
  bif (a6==1) then (Pi a2 a5 a3 k5 a0 a1) else (bif (a6==2) then ((apd 8 a1 ([a0])).bind λa7 =>
  Pj a0 k8 a7) else (Pj a0 k8 a1))) else (Pi a2 a5 a3 k5 (-1) a1)
def Pm (a0:List (List Int)) (a3:Int) (a2:List zJ) (a1:List (List zL)) (a4:Int) (k5:List (List zL)->Int->Option ((List (List zL))×Int)):Nat->List Int->Int->Option ((List (List zL))×Int)
  | 0,_,_=>none
  | n+1,a5,a6=>S5 a0 a3 a2 a1 a4 k5 (Pm a0 a3 a2 a1 a4 k5 n) a5 a6
def S4 (F:Nat) (a4:List (List Int)) (a2:Int) (k3:List (List zL)->Int->Option ((List (List zL))×Int)) (a1:List zJ) (k5:List (List zL)->Int->Option ((List (List zL))×Int)) (a0:List (List zL)) (a3:Int):Option ((List (List zL))×Int) :=
  bif (decide (a3<((a1.length:Nat):Int))) then (Pm a4 a2 a1 a0 a3 k5 F ([]) 0) else (S8 a2 k3 a0)
def Pl (F:Nat) (a0:List (List Int)) (a2:Int) (k3:List (List zL)->Int->Option ((List (List zL))×Int)) (a1:List zJ):Nat->List (List zL)->Int->Option ((List (List zL))×Int)
  | 0,_,_=>none
  | n+1,a3,a4=>S4 F a0 a2 k3 a1 (Pl F a0 a2 k3 a1 n) a3 a4
def S3 (F:Nat) (p1:zG) (a2:List (List Int)) (k3:List (List zL)->Int->Option ((List (List zL))×Int)) (a1:List (List zL)) (a0:Int):Option ((List (List zL))×Int) :=
  bif (decide (a0<((p1.Rays.length:Nat):Int))) then ((getI p1.Rays a0).bind λa3 =>
  Pl F a2 a0 k3 a3 F a1 0) else (S7 a1)
def Pk (F:Nat) (p1:zG) (a0:List (List Int)):Nat->List (List zL)->Int->Option ((List (List zL))×Int)
  | 0,_,_=>none
  | n+1,a1,a2=>S3 F p1 a0 (Pk F p1 a0 n) a1 a2
def S6 (F:Nat) (p1:zG) (a2:List (ByteArray×(List Int))) (a3:List (ByteArray×(List zD))) (a0:List (List Int)):Option ((List (List zL))×Int) :=
  (mkI 24 ((p1.Rays.length:Nat):Int) ([]:(List zL))).bind λa1 =>
  Pk F p1 a0 F a1 0
def R0 (F:Nat) (p0:List zK) (p1:zG) (a5:zF) (a6:List (ByteArray×(List Int))->List (ByteArray×(List zD))->Int->List (List Int)->Option ((List (List zL))×Int)) (a2:List (ByteArray×(List Int))) (a3:List (ByteArray×(List zD))) (a0:Int) (a4:List (List Int)):Option ((List (List zL))×Int) :=
  bif (decide (a0<((p0.length:Nat):Int))) then ((getI p0 a0).bind λa8 =>
  (F8 F (zF.mk a5.s a5.n a2 a3) a8.When).bind λa1 =>
  (apd 24 a4 ([a1.1])).bind λa7 =>
  (ck (a0+1)).bind λa9 =>
  a6 a1.2.tests a1.2.values a9 a7) else (S6 F p1 a2 a3 a4)
def Nj (F:Nat) (p0:List zK) (p1:zG) (a0:zF):Nat->List (ByteArray×(List Int))->List (ByteArray×(List zD))->Int->List (List Int)->Option ((List (List zL))×Int)
  | 0,_,_,_,_=>none
  | n+1,a1,a2,a4,a3=>R0 F p0 p1 a0 (Nj F p0 p1 a0 n) a1 a2 a4 a3
def Vy (F:Nat) (p0:List zK) (p1:zG):Option ((List (List zL))×Int) :=
  (Mz F p0).bind λa1 =>
  bif (a1 != 0) then (some (([]:(List (List zL))),a1)) else ((C5 F p1).bind λa2 =>
  bif (a2 != 0) then (some (([]:(List (List zL))),a2)) else ((Gr F p1).bind λa0 =>
  Nj F p0 p1 a0 F a0.tests a0.values 0 ([])))
def Tg (p0:ByteArray):Option ByteArray :=
  some p0
def Tf (p0:ByteArray) (p1:ByteArray) (k2:Int->Option ByteArray) (a0:Int):Option ByteArray :=
  bif (decide (a0<((p0.size:Nat):Int))) then ((R9 p0 a0).bind λa2 =>
  bif (decide ((C3 p1 a2)<0)) then ((Lf p0 0 a0).bind λa1 =>
  some a1) else ((ck (a0+1)).bind λa3 =>
  k2 a3)) else (Tg p0)
def Qk (p0:ByteArray) (p1:ByteArray):Nat->Int->Option ByteArray
  | 0,_=>none
  | n+1,a0=>Tf p0 p1 (Qk p0 p1 n) a0
def Jx (F:Nat) (p0:ByteArray) (p1:ByteArray):Option ByteArray :=
  Qk p0 p1 F 0
def Lk (F:Nat) (p0:zB) (k1:Int->Option zB) (a3:Int):Option zB :=
  (Lf p0.s a3 ((p0.s.size:Nat):Int)).bind λa4 =>
  (Jx F a4 (⟨#[32,9,10,13]⟩:ByteArray)).bind λa8 =>
  (ck (a3+((a8.size:Nat):Int))).bind λa0 =>
  bif (a0==((p0.s.size:Nat):Int)) then (bif (bif (a0==((p0.s.size:Nat):Int)) then true else (0 != 35)) then (some (zB.mk p0.s a0 p0.token p0.from_)) else ((Lf p0.s a0 ((p0.s.size:Nat):Int)).bind λa1 =>
  bif (decide ((C3 a1 10)>=0)) then ((ck (a0+(C3 a1 10))).bind λa6 =>
  k1 a6) else (k1 ((p0.s.size:Nat):Int)))) else ((R9 p0.s a0).bind λa5 =>
  bif (bif (a0==((p0.s.size:Nat):Int)) then true else (a5 != 35)) then (some (zB.mk p0.s a0 p0.token p0.from_)) else ((Lf p0.s a0 ((p0.s.size:Nat):Int)).bind λa2 =>
  bif (decide ((C3 a2 10)>=0)) then ((ck (a0+(C3 a2 10))).bind λa7 =>
  k1 a7) else (k1 ((p0.s.size:Nat):Int))))
def Ht (F:Nat) (p0:zB):Nat->Int->Option zB
  | 0,_=>none
  | n+1,a0=>Lk F p0 (Ht F p0 n) a0
def L8 (F:Nat) (p0:zB):Option zB :=
  Ht F p0 F p0.at_
def Fb (F:Nat) (p0:ByteArray) (p1:ByteArray):Option Bool :=
  bif (decide (((p0.size:Nat):Int)>=((p1.size:Nat):Int))) then ((Lf p0 0 ((p1.size:Nat):Int)).bind λs2 =>
  some (sEq s2 p1)) else (some false)
def Bn (F:Nat) (p0:ByteArray) (p1:ByteArray):Option Bool :=
  (Fb F p0 p1).bind λy1 =>
  some y1
def Ax (y4:zB) (a0:ByteArray):Option zB :=
  (ck (y4.at_+((a0.size:Nat):Int))).bind λa1 =>
  some (zB.mk y4.s a1 a0 y4.at_)
def Ca (a0:zB) (a1:ByteArray):Option zB :=
  (ck (a0.at_+((a1.size:Nat):Int))).bind λa2 =>
  some (zB.mk a0.s a2 a1 a0.at_)
def Bj (F:Nat) (p0:zB):Option zB :=
  bif (!(sEq p0.token (⟨#[]⟩:ByteArray))) then ((Lf p0.token 0 1).bind λs2 =>
  (Bc F (⟨#[48,49,50,51,52,53,54,55,56,57]⟩:ByteArray) s2).bind λy3 =>
  (L8 F p0).bind λy4 =>
  (Lf y4.s y4.at_ ((y4.s.size:Nat):Int)).bind λs8 =>
  bif (sEq s8 (⟨#[]⟩:ByteArray)) then (Ax y4 (⟨#[]⟩:ByteArray)) else (bif y3 then (bif (y4.at_==p0.at_) then ((Lf s8 0 1).bind λaI =>
  (Bc F (⟨#[97,98,99,100,101,102,103,104,105,106,107,108,109,110,111,112,113,114,115,116,117,118,119,120,121,122,48,49,50,51,52,53,54,55,56,57]⟩:ByteArray) aI).bind λb7 =>
  bif b7 then (Ax y4 (⟨#[]⟩:ByteArray)) else ((Lf s8 0 1).bind λaJ =>
  (Bc F (⟨#[97,98,99,100,101,102,103,104,105,106,107,108,109,110,111,112,113,114,115,116,117,118,119,120,121,122]⟩:ByteArray) aJ).bind λb8 =>
  bif b8 then ((Jx F s8 (⟨#[97,98,99,100,101,102,103,104,105,106,107,108,109,110,111,112,113,114,115,116,117,118,119,120,121,122,48,49,50,51,52,53,54,55,56,57,95]⟩:ByteArray)).bind λb9 =>
  Ax y4 b9) else ((R9 s8 (0:Int)).bind λaW =>
  bif (aW==48) then (Ax y4 (⟨#[48]⟩:ByteArray)) else ((Lf s8 0 1).bind λaK =>
  (Bc F (⟨#[48,49,50,51,52,53,54,55,56,57]⟩:ByteArray) aK).bind λbA =>
  bif bA then ((Jx F s8 (⟨#[48,49,50,51,52,53,54,55,56,57]⟩:ByteArray)).bind λbB =>
  Ax y4 bB) else ((Bn F s8 (⟨#[60,61]⟩:ByteArray)).bind λa3 =>
  (gd ((a3==false&&true)) (Bn F s8 (⟨#[62,61]⟩:ByteArray)) default).bind λa8 =>
  (gd (((bif a3 then true else a8)==false&&true)) (Bn F s8 (⟨#[33,61]⟩:ByteArray)) default).bind λbC =>
  bif (bif (bif a3 then true else a8) then true else bC) then ((Lf s8 0 2).bind λaL =>
  Ax y4 aL) else ((Lf s8 0 1).bind λaM =>
  (Bc F (⟨#[60,62,61,43,45,40,41,58,59]⟩:ByteArray) aM).bind λbD =>
  bif bD then ((Lf s8 0 1).bind λaN =>
  Ax y4 aN) else (Ax y4 (⟨#[]⟩:ByteArray)))))))) else ((Lf s8 0 1).bind λaO =>
  (Bc F (⟨#[97,98,99,100,101,102,103,104,105,106,107,108,109,110,111,112,113,114,115,116,117,118,119,120,121,122]⟩:ByteArray) aO).bind λbE =>
  bif bE then ((Jx F s8 (⟨#[97,98,99,100,101,102,103,104,105,106,107,108,109,110,111,112,113,114,115,116,117,118,119,120,121,122,48,49,50,51,52,53,54,55,56,57,95]⟩:ByteArray)).bind λbF =>
  Ax y4 bF) else ((R9 s8 (0:Int)).bind λaX =>
  bif (aX==48) then (Ax y4 (⟨#[48]⟩:ByteArray)) else ((Lf s8 0 1).bind λaP =>
  (Bc F (⟨#[48,49,50,51,52,53,54,55,56,57]⟩:ByteArray) aP).bind λbG =>
  bif bG then ((Jx F s8 (⟨#[48,49,50,51,52,53,54,55,56,57]⟩:ByteArray)).bind λbH =>
  Ax y4 bH) else ((Bn F s8 (⟨#[60,61]⟩:ByteArray)).bind λa4 =>
  (gd ((a4==false&&true)) (Bn F s8 (⟨#[62,61]⟩:ByteArray)) default).bind λa9 =>
  (gd (((bif a4 then true else a9)==false&&true)) (Bn F s8 (⟨#[33,61]⟩:ByteArray)) default).bind λbI =>
  bif (bif (bif a4 then true else a9) then true else bI) then ((Lf s8 0 2).bind λaQ =>
  Ax y4 aQ) else ((Lf s8 0 1).bind λaR =>
  (Bc F (⟨#[60,62,61,43,45,40,41,58,59]⟩:ByteArray) aR).bind λbJ =>
  bif bJ then ((Lf s8 0 1).bind λaS =>
  Ax y4 aS) else (Ax y4 (⟨#[]⟩:ByteArray)))))))) else ((Lf s8 0 1).bind λaT =>
  (Bc F (⟨#[97,98,99,100,101,102,103,104,105,106,107,108,109,110,111,112,113,114,115,116,117,118,119,120,121,122]⟩:ByteArray) aT).bind λbK =>
  bif bK then ((Jx F s8 (⟨#[97,98,99,100,101,102,103,104,105,106,107,108,109,110,111,112,113,114,115,116,117,118,119,120,121,122,48,49,50,51,52,53,54,55,56,57,95]⟩:ByteArray)).bind λbL =>
  Ax y4 bL) else ((R9 s8 (0:Int)).bind λaY =>
  bif (aY==48) then (Ax y4 (⟨#[48]⟩:ByteArray)) else ((Lf s8 0 1).bind λaU =>
  (Bc F (⟨#[48,49,50,51,52,53,54,55,56,57]⟩:ByteArray) aU).bind λbM =>
  bif bM then ((Jx F s8 (⟨#[48,49,50,51,52,53,54,55,56,57]⟩:ByteArray)).bind λbN =>
  Ax y4 bN) else ((Bn F s8 (⟨#[60,61]⟩:ByteArray)).bind λa5 =>
  (gd ((a5==false&&true)) (Bn F s8 (⟨#[62,61]⟩:ByteArray)) default).bind λa6 =>
  (gd (((bif a5 then true else a6)==false&&true)) (Bn F s8 (⟨#[33,61]⟩:ByteArray)) default).bind λaZ =>
  bif (bif (bif a5 then true else a6) then true else aZ) then ((Lf s8 0 2).bind λaA =>
  Ax y4 aA) else ((Lf s8 0 1).bind λaB =>
  (Bc F (⟨#[60,62,61,43,45,40,41,58,59]⟩:ByteArray) aB).bind λb0 =>
  bif b0 then ((Lf s8 0 1).bind λaC =>
  Ax y4 aC) else (Ax y4 (⟨#[]⟩:ByteArray))))))))) else ((L8 F p0).bind λa1 =>
  (Lf a1.s a1.at_ ((a1.s.size:Nat):Int)).bind λa0 =>
  bif (sEq a0 (⟨#[]⟩:ByteArray)) then (Ca a1 (⟨#[]⟩:ByteArray)) else ((Lf a0 0 1).bind λaD =>
  (Bc F (⟨#[97,98,99,100,101,102,103,104,105,106,107,108,109,110,111,112,113,114,115,116,117,118,119,120,121,122]⟩:ByteArray) aD).bind λb1 =>
  bif b1 then ((Jx F a0 (⟨#[97,98,99,100,101,102,103,104,105,106,107,108,109,110,111,112,113,114,115,116,117,118,119,120,121,122,48,49,50,51,52,53,54,55,56,57,95]⟩:ByteArray)).bind λb2 =>
  Ca a1 b2) else ((R9 a0 (0:Int)).bind λaV =>
  bif (aV==48) then (Ca a1 (⟨#[48]⟩:ByteArray)) else ((Lf a0 0 1).bind λaE =>
  (Bc F (⟨#[48,49,50,51,52,53,54,55,56,57]⟩:ByteArray) aE).bind λb3 =>
  bif b3 then ((Jx F a0 (⟨#[48,49,50,51,52,53,54,55,56,57]⟩:ByteArray)).bind λb4 =>
  Ca a1 b4) else ((Bn F a0 (⟨#[60,61]⟩:ByteArray)).bind λa2 =>
  (gd ((a2==false&&true)) (Bn F a0 (⟨#[62,61]⟩:ByteArray)) default).bind λa7 =>
  (gd (((bif a2 then true else a7)==false&&true)) (Bn F a0 (⟨#[33,61]⟩:ByteArray)) default).bind λb5 =>
  bif (bif (bif a2 then true else a7) then true else b5) then ((Lf a0 0 2).bind λaF =>
  Ca a1 aF) else ((Lf a0 0 1).bind λaG =>
  (Bc F (⟨#[60,62,61,43,45,40,41,58,59]⟩:ByteArray) aG).bind λb6 =>
  bif b6 then ((Lf a0 0 1).bind λaH =>
  Ca a1 aH) else (Ca a1 (⟨#[]⟩:ByteArray))))))))
def D8 (F:Nat) (p0:zB):Option (Except (Value×zB) zB) :=
  some (.error (.iface 146 (.int .i64 p0.from_),p0))
def L9 (F:Nat) (p0:zB) (p1:ByteArray):Option (Bool×zB) :=
  bif (!(sEq p0.token p1)) then (some (false,p0)) else ((Bj F p0).bind λy1 =>
  some (true,y1))
def Hr (F:Nat) (p0:zB) (p1:ByteArray):Option (Except (Value×zB) zB) :=
  (L9 F p0 p1).bind λy1 =>
  bif (!y1.1) then ((D8 F (zB.mk y1.2.s y1.2.at_ y1.2.token y1.2.from_)).bind λy5 =>
  exc y5 (λe7=>some (.error (e7.1,(zB.mk e7.2.s e7.2.at_ e7.2.token e7.2.from_)))) λy6 =>
  some (.ok y6)) else (some (.ok (zB.mk y1.2.s y1.2.at_ y1.2.token y1.2.from_)))
def K8 (F:Nat) (a0:ByteArray) (a2:Int) (a1:ByteArray) (a3:Int) (a4:Int):Option (Except (Value×zB) (Int×zB)) :=
  (Bj F (zB.mk a0 a2 a1 a3)).bind λa5 =>
  some (.ok (a4,a5))
def Gf (a2:Int) (k3:ByteArray->Int->ByteArray->Int->Int->Int->Option (Except (Value×zB) (Int×zB))) (a0:ByteArray) (a3:Int) (a1:ByteArray) (a4:Int) (a5:Int):Option (Except (Value×zB) (Int×zB)) :=
  (ck (a2+1)).bind λa6 =>
  k3 a0 a3 a1 a4 a6 a5
def K7 (F:Nat) (p1:Int) (a8:List Int) (k3:ByteArray->Int->ByteArray->Int->Int->Int->Option (Except (Value×zB) (Int×zB))) (a3:ByteArray) (a5:Int) (a4:ByteArray) (a6:Int) (a1:Int) (a9:Int):Option (Except (Value×zB) (Int×zB)) :=
  bif (decide (a1<((a8.length:Nat):Int))) then ((getI a8 a1).bind λaA =>
  (ck (10*a9)).bind λaB =>
  (ck (IntKind.u8.wrap (aA-48))).bind λaC =>
  (ck (aB+aC)).bind λa7 =>
  bif (decide (a7>p1)) then ((D8 F (zB.mk a3 a5 a4 a6)).bind λaD =>
  exc aD (λa0=>some (.error (a0.1,(zB.mk a0.2.s a0.2.at_ a0.2.token a0.2.from_)))) λa2 =>
  Gf a1 k3 a2.s a2.at_ a2.token a2.from_ a7) else (Gf a1 k3 a3 a5 a4 a6 a7)) else (K8 F a3 a5 a4 a6 a9)
def Gg (F:Nat) (p1:Int) (a0:List Int):Nat->ByteArray->Int->ByteArray->Int->Int->Int->Option (Except (Value×zB) (Int×zB))
  | 0,_,_,_,_,_,_=>none
  | n+1,a1,a3,a2,a4,a5,a6=>K7 F p1 a0 (Gg F p1 a0 n) a1 a3 a2 a4 a5 a6
def Es (F:Nat) (p1:Int) (a2:ByteArray) (a3:Int) (a0:ByteArray) (a4:Int):Option (Except (Value×zB) (Int×zB)) :=
  (s2b a0).bind λa1 =>
  Gg F p1 a1 F a2 a3 a0 a4 0 0
def Gd (F:Nat) (p0:zB) (p1:Int):Option (Except (Value×zB) (Int×zB)) :=
  bif (sEq p0.token (⟨#[]⟩:ByteArray)) then ((D8 F p0).bind λa5 =>
  exc a5 (λa0=>some (.error (a0.1,(zB.mk a0.2.s a0.2.at_ a0.2.token a0.2.from_)))) λa2 =>
  Es F p1 a2.s a2.at_ a2.token a2.from_) else ((Lf p0.token 0 1).bind λa4 =>
  (Bc F (⟨#[48,49,50,51,52,53,54,55,56,57]⟩:ByteArray) a4).bind λa6 =>
  bif (!a6) then ((D8 F p0).bind λa7 =>
  exc a7 (λa1=>some (.error (a1.1,(zB.mk a1.2.s a1.2.at_ a1.2.token a1.2.from_)))) λa3 =>
  Es F p1 a3.s a3.at_ a3.token a3.from_) else (Es F p1 p0.s p0.at_ p0.token p0.from_))
abbrev Aj:=zB->Option (Except (Value×zB) (zA×zB))
def Hc (F:Nat) (s149_:Aj) (a5:Int) (a6:Int) (a7:Int) (a8:Int) (a2:List zA) (a3:ByteArray) (a9:Int) (a4:ByteArray) (aA:Int) (k1:Int->Int->Int->Int->List zA->ByteArray->Int->ByteArray->Int->Option (Except (Value×zB) (zA×zB))) (aB:Int):Option (Except (Value×zB) (zA×zB)) :=
  bif (aB==0) then (some (.ok ((zA.mk a5 a6 a7 a8 a2),(zB.mk a3 a9 a4 aA)))) else ((Bj F (zB.mk a3 a9 a4 aA)).bind λaC =>
  (s149_ aC).bind λaD =>
  exc aD (λa1=>some (.error (a1.1,(zB.mk a1.2.s a1.2.at_ a1.2.token a1.2.from_)))) λa0 =>
  k1 aB 0 0 0 ([(zA.mk a5 a6 a7 a8 a2),(zA.mk a0.1.Op a0.1.Value_ a0.1.Rays a0.1.Gates a0.1.Args)]) a0.2.s a0.2.at_ a0.2.token a0.2.from_)
def Ek (a0:Int) (k3:Int->Int->Option (Except (Value×zB) (zA×zB))) (a1:Int):Option (Except (Value×zB) (zA×zB)) :=
  (ck (a0+1)).bind λa2 =>
  k3 a2 a1
def Hb (F:Nat) (s149_:Aj) (p2:List Int) (a7:Int) (a8:Int) (a9:Int) (aA:Int) (a4:List zA) (a5:ByteArray) (aB:Int) (a1:ByteArray) (aC:Int) (k1:Int->Int->Int->Int->List zA->ByteArray->Int->ByteArray->Int->Option (Except (Value×zB) (zA×zB))) (k3:Int->Int->Option (Except (Value×zB) (zA×zB))) (a0:Int) (a3:Int):Option (Except (Value×zB) (zA×zB)) :=
  bif (decide (a0<((p2.length:Nat):Int))) then ((getI p2 a0).bind λa2 =>
  (A0z Cl a2).bind λa6 =>
  bif (sEq a1 a6) then (Ek a0 k3 a2) else (Ek a0 k3 a3)) else (Hc F s149_ a7 a8 a9 aA a4 a5 aB a1 aC k1 a3)
def Em (F:Nat) (s149_:Aj) (p2:List Int) (a3:Int) (a4:Int) (a5:Int) (a6:Int) (a0:List zA) (a1:ByteArray) (a7:Int) (a2:ByteArray) (a8:Int) (k1:Int->Int->Int->Int->List zA->ByteArray->Int->ByteArray->Int->Option (Except (Value×zB) (zA×zB))):Nat->Int->Int->Option (Except (Value×zB) (zA×zB))
  | 0,_,_=>none
  | n+1,a9,aA=>Hb F s149_ p2 a3 a4 a5 a6 a0 a1 a7 a2 a8 k1 (Em F s149_ p2 a3 a4 a5 a6 a0 a1 a7 a2 a8 k1 n) a9 aA
def Ha (F:Nat) (s149_:Aj) (p2:List Int) (k1:Int->Int->Int->Int->List zA->ByteArray->Int->ByteArray->Int->Option (Except (Value×zB) (zA×zB))) (a3:Int) (a4:Int) (a5:Int) (a6:Int) (a0:List zA) (a1:ByteArray) (a7:Int) (a2:ByteArray) (a8:Int):Option (Except (Value×zB) (zA×zB)) :=
  Em F s149_ p2 a3 a4 a5 a6 a0 a1 a7 a2 a8 k1 F 0 0
def El (F:Nat) (s149_:Aj) (p2:List Int):Nat->Int->Int->Int->Int->List zA->ByteArray->Int->ByteArray->Int->Option (Except (Value×zB) (zA×zB))
  | 0,_,_,_,_,_,_,_,_,_=>none
  | n+1,a3,a4,a5,a6,a0,a1,a7,a2,a8=>Ha F s149_ p2 (El F s149_ p2 n) a3 a4 a5 a6 a0 a1 a7 a2 a8
def Jk (F:Nat) (s149_:Aj) (p0:zB) (p2:List Int):Option (Except (Value×zB) (zA×zB)) :=
  (s149_ p0).bind λy5 =>
  exc y5 (λe7=>some (.error (e7.1,(zB.mk e7.2.s e7.2.at_ e7.2.token e7.2.from_)))) λy6 =>
  El F s149_ p2 F y6.1.Op y6.1.Value_ y6.1.Rays y6.1.Gates y6.1.Args y6.2.s y6.2.at_ y6.2.token y6.2.from_
def J9 (F:Nat) (s149_:Aj) (c0_:zB):Option (Except (Value×zB) (zA×zB)) :=
  (Jk F s149_ c0_ ([4])).bind λy7 =>
  exc y7 (λe9=>some (.error (e9.1,(zB.mk e9.2.s e9.2.at_ e9.2.token e9.2.from_)))) λy8 =>
  some (.ok ((zA.mk y8.1.Op y8.1.Value_ y8.1.Rays y8.1.Gates y8.1.Args),(zB.mk y8.2.s y8.2.at_ y8.2.token y8.2.from_)))
def H9 (F:Nat) (s149_:Aj) (a5:Int) (a6:Int) (a7:Int) (a8:Int) (a2:List zA) (a3:ByteArray) (a9:Int) (a4:ByteArray) (aA:Int) (k1:Int->Int->Int->Int->List zA->ByteArray->Int->ByteArray->Int->Option (Except (Value×zB) (zA×zB))) (aB:Int):Option (Except (Value×zB) (zA×zB)) :=
  bif (aB==0) then (some (.ok ((zA.mk a5 a6 a7 a8 a2),(zB.mk a3 a9 a4 aA)))) else ((Bj F (zB.mk a3 a9 a4 aA)).bind λaC =>
  (J9 F s149_ aC).bind λaD =>
  exc aD (λa1=>some (.error (a1.1,(zB.mk a1.2.s a1.2.at_ a1.2.token a1.2.from_)))) λa0 =>
  k1 aB 0 0 0 ([(zA.mk a5 a6 a7 a8 a2),(zA.mk a0.1.Op a0.1.Value_ a0.1.Rays a0.1.Gates a0.1.Args)]) a0.2.s a0.2.at_ a0.2.token a0.2.from_)
def Eh (a0:Int) (k3:Int->Int->Option (Except (Value×zB) (zA×zB))) (a1:Int):Option (Except (Value×zB) (zA×zB)) :=
  (ck (a0+1)).bind λa2 =>
  k3 a2 a1
def H8 (F:Nat) (s149_:Aj) (p2:List Int) (a7:Int) (a8:Int) (a9:Int) (aA:Int) (a4:List zA) (a5:ByteArray) (aB:Int) (a1:ByteArray) (aC:Int) (k1:Int->Int->Int->Int->List zA->ByteArray->Int->ByteArray->Int->Option (Except (Value×zB) (zA×zB))) (k3:Int->Int->Option (Except (Value×zB) (zA×zB))) (a0:Int) (a3:Int):Option (Except (Value×zB) (zA×zB)) :=
  bif (decide (a0<((p2.length:Nat):Int))) then ((getI p2 a0).bind λa2 =>
  (A0z Cl a2).bind λa6 =>
  bif (sEq a1 a6) then (Eh a0 k3 a2) else (Eh a0 k3 a3)) else (H9 F s149_ a7 a8 a9 aA a4 a5 aB a1 aC k1 a3)
def Ej (F:Nat) (s149_:Aj) (p2:List Int) (a3:Int) (a4:Int) (a5:Int) (a6:Int) (a0:List zA) (a1:ByteArray) (a7:Int) (a2:ByteArray) (a8:Int) (k1:Int->Int->Int->Int->List zA->ByteArray->Int->ByteArray->Int->Option (Except (Value×zB) (zA×zB))):Nat->Int->Int->Option (Except (Value×zB) (zA×zB))
  | 0,_,_=>none
  | n+1,a9,aA=>H8 F s149_ p2 a3 a4 a5 a6 a0 a1 a7 a2 a8 k1 (Ej F s149_ p2 a3 a4 a5 a6 a0 a1 a7 a2 a8 k1 n) a9 aA
def H7 (F:Nat) (s149_:Aj) (p2:List Int) (k1:Int->Int->Int->Int->List zA->ByteArray->Int->ByteArray->Int->Option (Except (Value×zB) (zA×zB))) (a3:Int) (a4:Int) (a5:Int) (a6:Int) (a0:List zA) (a1:ByteArray) (a7:Int) (a2:ByteArray) (a8:Int):Option (Except (Value×zB) (zA×zB)) :=
  Ej F s149_ p2 a3 a4 a5 a6 a0 a1 a7 a2 a8 k1 F 0 0
def Ei (F:Nat) (s149_:Aj) (p2:List Int):Nat->Int->Int->Int->Int->List zA->ByteArray->Int->ByteArray->Int->Option (Except (Value×zB) (zA×zB))
  | 0,_,_,_,_,_,_,_,_,_=>none
  | n+1,a3,a4,a5,a6,a0,a1,a7,a2,a8=>H7 F s149_ p2 (Ei F s149_ p2 n) a3 a4 a5 a6 a0 a1 a7 a2 a8
def Jj (F:Nat) (s149_:Aj) (p0:zB) (p2:List Int):Option (Except (Value×zB) (zA×zB)) :=
  (J9 F s149_ p0).bind λy5 =>
  exc y5 (λe7=>some (.error (e7.1,(zB.mk e7.2.s e7.2.at_ e7.2.token e7.2.from_)))) λy6 =>
  Ei F s149_ p2 F y6.1.Op y6.1.Value_ y6.1.Rays y6.1.Gates y6.1.Args y6.2.s y6.2.at_ y6.2.token y6.2.from_
def L6 (F:Nat) (s149_:Aj) (p0:zB):Option (Except (Value×zB) (zA×zB)) :=
  (Jj F s149_ p0 ([5])).bind λa2 =>
  exc a2 (λa1=>some (.error (a1.1,(zB.mk a1.2.s a1.2.at_ a1.2.token a1.2.from_)))) λa0 =>
  some (.ok ((zA.mk a0.1.Op a0.1.Value_ a0.1.Rays a0.1.Gates a0.1.Args),(zB.mk a0.2.s a0.2.at_ a0.2.token a0.2.from_)))
def J8 (F:Nat) (s149_:Aj) (p0:zB) (p1:Int):Option (Except (Value×zB) (zA×zB)) :=
  (Gd F p0 3).bind λy2 =>
  exc y2 (λe4=>some (.error (e4.1,(zB.mk e4.2.s e4.2.at_ e4.2.token e4.2.from_)))) λy3 =>
  (Gd F (zB.mk y3.2.s y3.2.at_ y3.2.token y3.2.from_) 3).bind λa4 =>
  exc a4 (λa1=>some (.error (a1.1,(zB.mk a1.2.s a1.2.at_ a1.2.token a1.2.from_)))) λa3 =>
  (s149_ (zB.mk a3.2.s a3.2.at_ a3.2.token a3.2.from_)).bind λa5 =>
  exc a5 (λa2=>some (.error (a2.1,(zB.mk a2.2.s a2.2.at_ a2.2.token a2.2.from_)))) λa0 =>
  some (.ok ((zA.mk p1 0 y3.1 a3.1 ([(zA.mk a0.1.Op a0.1.Value_ a0.1.Rays a0.1.Gates a0.1.Args)])),(zB.mk a0.2.s a0.2.at_ a0.2.token a0.2.from_)))
def L7 (F:Nat) (s149_:Aj) (p0:zB):Option (Except (Value×zB) (zA×zB)) :=
  (P5 F p0.token 15 25).bind λy2 =>
  bif (y2==0) then ((Gd F p0 1000000000).bind λy3 =>
  exc y3 (λe5=>some (.error (e5.1,(zB.mk e5.2.s e5.2.at_ e5.2.token e5.2.from_)))) λy4 =>
  some (.ok ((zA.mk 14 y4.1 0 0 ([]:(List zA))),(zB.mk y4.2.s y4.2.at_ y4.2.token y4.2.from_)))) else (bif (y2==25) then ((Bj F p0).bind λa2 =>
  (J8 F s149_ a2 25).bind λa3 =>
  exc a3 (λa1=>some (.error (a1.1,(zB.mk a1.2.s a1.2.at_ a1.2.token a1.2.from_)))) λa0 =>
  some (.ok ((zA.mk a0.1.Op a0.1.Value_ a0.1.Rays a0.1.Gates a0.1.Args),(zB.mk a0.2.s a0.2.at_ a0.2.token a0.2.from_)))) else ((Bj F p0).bind λa4 =>
  some (.ok ((zA.mk y2 0 0 0 ([]:(List zA))),a4))))
def Hg (F:Nat) (s149_:Aj) (a5:Int) (a6:Int) (a7:Int) (a8:Int) (a2:List zA) (a3:ByteArray) (a9:Int) (a4:ByteArray) (aA:Int) (k1:Int->Int->Int->Int->List zA->ByteArray->Int->ByteArray->Int->Option (Except (Value×zB) (zA×zB))) (aB:Int):Option (Except (Value×zB) (zA×zB)) :=
  bif (aB==0) then (some (.ok ((zA.mk a5 a6 a7 a8 a2),(zB.mk a3 a9 a4 aA)))) else ((Bj F (zB.mk a3 a9 a4 aA)).bind λaC =>
  (L7 F s149_ aC).bind λaD =>
  exc aD (λa1=>some (.error (a1.1,(zB.mk a1.2.s a1.2.at_ a1.2.token a1.2.from_)))) λa0 =>
  k1 aB 0 0 0 ([(zA.mk a5 a6 a7 a8 a2),(zA.mk a0.1.Op a0.1.Value_ a0.1.Rays a0.1.Gates a0.1.Args)]) a0.2.s a0.2.at_ a0.2.token a0.2.from_)
def Eo (a0:Int) (k3:Int->Int->Option (Except (Value×zB) (zA×zB))) (a1:Int):Option (Except (Value×zB) (zA×zB)) :=
  (ck (a0+1)).bind λa2 =>
  k3 a2 a1
def Hf (F:Nat) (s149_:Aj) (p2:List Int) (a7:Int) (a8:Int) (a9:Int) (aA:Int) (a4:List zA) (a5:ByteArray) (aB:Int) (a1:ByteArray) (aC:Int) (k1:Int->Int->Int->Int->List zA->ByteArray->Int->ByteArray->Int->Option (Except (Value×zB) (zA×zB))) (k3:Int->Int->Option (Except (Value×zB) (zA×zB))) (a0:Int) (a3:Int):Option (Except (Value×zB) (zA×zB)) :=
  bif (decide (a0<((p2.length:Nat):Int))) then ((getI p2 a0).bind λa2 =>
  (A0z Cl a2).bind λa6 =>
  bif (sEq a1 a6) then (Eo a0 k3 a2) else (Eo a0 k3 a3)) else (Hg F s149_ a7 a8 a9 aA a4 a5 aB a1 aC k1 a3)
def Er (F:Nat) (s149_:Aj) (p2:List Int) (a3:Int) (a4:Int) (a5:Int) (a6:Int) (a0:List zA) (a1:ByteArray) (a7:Int) (a2:ByteArray) (a8:Int) (k1:Int->Int->Int->Int->List zA->ByteArray->Int->ByteArray->Int->Option (Except (Value×zB) (zA×zB))):Nat->Int->Int->Option (Except (Value×zB) (zA×zB))
  | 0,_,_=>none
  | n+1,a9,aA=>Hf F s149_ p2 a3 a4 a5 a6 a0 a1 a7 a2 a8 k1 (Er F s149_ p2 a3 a4 a5 a6 a0 a1 a7 a2 a8 k1 n) a9 aA
def He (F:Nat) (s149_:Aj) (p2:List Int) (k1:Int->Int->Int->Int->List zA->ByteArray->Int->ByteArray->Int->Option (Except (Value×zB) (zA×zB))) (a3:Int) (a4:Int) (a5:Int) (a6:Int) (a0:List zA) (a1:ByteArray) (a7:Int) (a2:ByteArray) (a8:Int):Option (Except (Value×zB) (zA×zB)) :=
  Er F s149_ p2 a3 a4 a5 a6 a0 a1 a7 a2 a8 k1 F 0 0
def Ep (F:Nat) (s149_:Aj) (p2:List Int):Nat->Int->Int->Int->Int->List zA->ByteArray->Int->ByteArray->Int->Option (Except (Value×zB) (zA×zB))
  | 0,_,_,_,_,_,_,_,_,_=>none
  | n+1,a3,a4,a5,a6,a0,a1,a7,a2,a8=>He F s149_ p2 (Ep F s149_ p2 n) a3 a4 a5 a6 a0 a1 a7 a2 a8
def G1 (F:Nat) (s149_:Aj) (p0:zB) (p2:List Int):Option (Except (Value×zB) (zA×zB)) :=
  (L7 F s149_ p0).bind λy5 =>
  exc y5 (λe7=>some (.error (e7.1,(zB.mk e7.2.s e7.2.at_ e7.2.token e7.2.from_)))) λy6 =>
  Ep F s149_ p2 F y6.1.Op y6.1.Value_ y6.1.Rays y6.1.Gates y6.1.Args y6.2.s y6.2.at_ y6.2.token y6.2.from_
def Gj (F:Nat) (s149_:Aj) (a2:zA×zB) (a9:Int) (a3:ByteArray) (a5:Int) (a4:ByteArray) (a6:Int):Option (Except (Value×zB) (zA×zB)) :=
  (Bj F (zB.mk a3 a5 a4 a6)).bind λa7 =>
  (G1 F s149_ a7 ([26,27])).bind λa8 =>
  exc a8 (λa1=>some (.error (a1.1,(zB.mk a1.2.s a1.2.at_ a1.2.token a1.2.from_)))) λa0 =>
  some (.ok ((zA.mk a9 0 0 0 ([(zA.mk a2.1.Op a2.1.Value_ a2.1.Rays a2.1.Gates a2.1.Args),(zA.mk a0.1.Op a0.1.Value_ a0.1.Rays a0.1.Gates a0.1.Args)])),(zB.mk a0.2.s a0.2.at_ a0.2.token a0.2.from_)))
def Gi (F:Nat) (s149_:Aj) (p0:zB) (y2:Int) (aB:Bool):Option (Except (Value×zB) (zA×zB)) :=
  bif aB then ((Bj F p0).bind λaD =>
  (J8 F s149_ aD y2).bind λaE =>
  exc aE (λa5=>some (.error (a5.1,(zB.mk a5.2.s a5.2.at_ a5.2.token a5.2.from_)))) λa1 =>
  some (.ok ((zA.mk a1.1.Op a1.1.Value_ a1.1.Rays a1.1.Gates a1.1.Args),(zB.mk a1.2.s a1.2.at_ a1.2.token a1.2.from_)))) else ((L9 F p0 (⟨#[40]⟩:ByteArray)).bind λa2 =>
  bif a2.1 then ((L6 F s149_ (zB.mk a2.2.s a2.2.at_ a2.2.token a2.2.from_)).bind λaF =>
  exc aF (λa6=>some (.error (a6.1,(zB.mk a6.2.s a6.2.at_ a6.2.token a6.2.from_)))) λa3 =>
  (Hr F (zB.mk a3.2.s a3.2.at_ a3.2.token a3.2.from_) (⟨#[41]⟩:ByteArray)).bind λaG =>
  exc aG (λa7=>some (.error (a7.1,(zB.mk a7.2.s a7.2.at_ a7.2.token a7.2.from_)))) λaH =>
  some (.ok ((zA.mk a3.1.Op a3.1.Value_ a3.1.Rays a3.1.Gates a3.1.Args),aH))) else ((G1 F s149_ (zB.mk a2.2.s a2.2.at_ a2.2.token a2.2.from_) ([26,27])).bind λaI =>
  exc aI (λa8=>some (.error (a8.1,(zB.mk a8.2.s a8.2.at_ a8.2.token a8.2.from_)))) λa0 =>
  (P5 F a0.2.token 8 13).bind λaA =>
  bif (aA==0) then ((D8 F (zB.mk a0.2.s a0.2.at_ a0.2.token a0.2.from_)).bind λaC =>
  exc aC (λa4=>some (.error (a4.1,(zB.mk a4.2.s a4.2.at_ a4.2.token a4.2.from_)))) λa9 =>
  Gj F s149_ a0 aA a9.s a9.at_ a9.token a9.from_) else (Gj F s149_ a0 aA a0.2.s a0.2.at_ a0.2.token a0.2.from_)))
def Gh (F:Nat) (s149_:Aj) (p0:zB) (y2:Int) (c3:Bool):Option (Except (Value×zB) (zA×zB)) :=
  bif c3 then ((Bj F p0).bind λy4 =>
  some (.ok ((zA.mk y2 0 0 0 ([]:(List zA))),y4))) else (bif (y2==3) then ((Bj F p0).bind λy8 =>
  (s149_ y8).bind λa2 =>
  exc a2 (λa1=>some (.error (a1.1,(zB.mk a1.2.s a1.2.at_ a1.2.token a1.2.from_)))) λa0 =>
  some (.ok ((zA.mk 3 0 0 0 ([(zA.mk a0.1.Op a0.1.Value_ a0.1.Rays a0.1.Gates a0.1.Args)])),(zB.mk a0.2.s a0.2.at_ a0.2.token a0.2.from_)))) else (bif (y2==6) then (Gi F s149_ p0 y2 (y2==6)) else (Gi F s149_ p0 y2 (y2==7))))
def Md (F:Nat) (s149_:Aj) (p0:zB):Option (Except (Value×zB) (zA×zB)) :=
  (P5 F p0.token 1 7).bind λy2 =>
  bif (y2==1) then (Gh F s149_ p0 y2 (y2==1)) else (Gh F s149_ p0 y2 (y2==2))
def Hs:Nat->Aj
  | 0=>λ_=>none
  | F+1=>Md F (Hs F)
def L0 (a1:ByteArray) (a3:Int) (a2:ByteArray) (a4:Int) (a0:List zK):Option (Except (Value×zB) ((List zK)×zB)) :=
  some (.ok (a0,(zB.mk a1 a3 a2 a4)))
def Fa (F:Nat) (a7:ByteArray) (a5:List zK) (k2:ByteArray->Int->ByteArray->Int->List zK->Option (Except (Value×zB) ((List zK)×zB))) (a8:ByteArray) (aA:Int) (a9:ByteArray) (aB:Int):Option (Except (Value×zB) ((List zK)×zB)) :=
  (Bj F (zB.mk a8 aA a9 aB)).bind λaC =>
  (Hr F aC (⟨#[58]⟩:ByteArray)).bind λaD =>
  exc aD (λa1=>some (.error (a1.1,(zB.mk a1.2.s a1.2.at_ a1.2.token a1.2.from_)))) λaE =>
  (L6 F (Hs F) aE).bind λaF =>
  exc aF (λa2=>some (.error (a2.1,(zB.mk a2.2.s a2.2.at_ a2.2.token a2.2.from_)))) λa0 =>
  (Hr F (zB.mk a0.2.s a0.2.at_ a0.2.token a0.2.from_) (⟨#[59]⟩:ByteArray)).bind λaG =>
  exc aG (λa3=>some (.error (a3.1,(zB.mk a3.2.s a3.2.at_ a3.2.token a3.2.from_)))) λa4 =>
  (apd 72 a5 ([(zK.mk a7 (zA.mk a0.1.Op a0.1.Value_ a0.1.Rays a0.1.Gates a0.1.Args))])).bind λa6 =>
  k2 a4.s a4.at_ a4.token a4.from_ a6
def Kz (F:Nat) (k2:ByteArray->Int->ByteArray->Int->List zK->Option (Except (Value×zB) ((List zK)×zB))) (a3:ByteArray) (a6:Int) (a0:ByteArray) (a4:Int) (a5:List zK):Option (Except (Value×zB) ((List zK)×zB)) :=
  bif (decide (a4<((a3.size:Nat):Int))) then (bif (sEq a0 (⟨#[]⟩:ByteArray)) then ((gd ((true==false&&true)) (sift_word F a0) default).bind λaE =>
  (D8 F (zB.mk a3 a6 a0 a4)).bind λaB =>
  exc aB (λa1=>some (.error (a1.1,(zB.mk a1.2.s a1.2.at_ a1.2.token a1.2.from_)))) λa7 =>
  Fa F a0 a5 k2 a7.s a7.at_ a7.token a7.from_) else ((Lf a0 0 1).bind λaA =>
  (Bc F (⟨#[97,98,99,100,101,102,103,104,105,106,107,108,109,110,111,112,113,114,115,116,117,118,119,120,121,122]⟩:ByteArray) aA).bind λa9 =>
  (gd (((!a9)==false&&true)) (sift_word F a0) default).bind λaC =>
  bif (bif (bif (!a9) then true else aC) then true else (decide (((a0.size:Nat):Int)>12))) then ((D8 F (zB.mk a3 a6 a0 a4)).bind λaD =>
  exc aD (λa2=>some (.error (a2.1,(zB.mk a2.2.s a2.2.at_ a2.2.token a2.2.from_)))) λa8 =>
  Fa F a0 a5 k2 a8.s a8.at_ a8.token a8.from_) else (Fa F a0 a5 k2 a3 a6 a0 a4))) else (L0 a3 a6 a0 a4 a5)
def Hm (F:Nat):Nat->ByteArray->Int->ByteArray->Int->List zK->Option (Except (Value×zB) ((List zK)×zB))
  | 0,_,_,_,_,_=>none
  | n+1,a1,a3,a2,a4,a0=>Kz F (Hm F n) a1 a3 a2 a4 a0
def Mx (F:Nat) (p0:zB):Option (Except (Value×zB) ((List zK)×zB)) :=
  (Bj F p0).bind λa0 =>
  Hm F F a0.s a0.at_ a0.token a0.from_ ([])
def Ma (F:Nat) (p0:ByteArray):Option ((List zK)×Int×Int) :=
  bif (decide (((p0.size:Nat):Int)>65536)) then (some (([]:(List zK)),0,8)) else ((Mx F (zB.mk p0 0 ByteArray.empty 0)).bind λy5 =>
  exc y5 (λe7=>(asI 146 .i64 e7.1).bind λa1 =>
  some (([]:(List zK)),a1,7)) λy6 =>
  (Mz F y6.1).bind λa0 =>
  bif (a0 != 0) then (some (([]:(List zK)),0,a0)) else (some (y6.1,0,0)))
def P0:Option Bool :=
  some true
def Nz (p0:List Int) (p1:List Int) (k2:Int->Option Bool) (a0:Int):Option Bool :=
  bif (decide (a0<((p0.length:Nat):Int))) then ((getI p0 a0).bind λa1 =>
  (getI p1 a0).bind λa2 =>
  bif (a1 != a2) then (some false) else ((ck (a0+1)).bind λa3 =>
  k2 a3)) else (P0)
def M4 (p0:List Int) (p1:List Int):Nat->Int->Option Bool
  | 0,_=>none
  | n+1,a0=>Nz p0 p1 (M4 p0 p1 n) a0
def Rt (F:Nat) (p0:List Int) (p1:List Int):Option Bool :=
  bif (((p0.length:Nat):Int) != ((p1.length:Nat):Int)) then (some false) else (M4 p0 p1 F 0)
def C7 (F:Nat) (p0:zA) (p2:zG) (p3:Int) (p4:Int):Option (Except Int (zF×Int)) :=
  (Bp F p0 300).bind λa1 =>
  bif (decide (a1>300)) then (some (.error 9)) else ((Fo F p0).bind λa2 =>
  bif (decide (a2>12)) then (some (.error 24)) else ((gd (((!(sift_isCondition p0))==false&&true)) (Bq F p0) default).bind λa3 =>
  bif (bif (!(sift_isCondition p0)) then true else (!a3)) then (some (.error 2)) else ((C5 F p2).bind λa0 =>
  bif (a0 != 0) then (some (.error a0)) else (bif (bif (bif (decide ((if p4<p3 then p4 else p3)<0)) then true else (decide (p3>=((p2.Rays.length:Nat):Int)))) then true else (decide (p4>=p2.Site.Gates))) then (some (.error 4)) else ((Gr F p2).bind λa4 =>
  some (.ok (a4,0)))))))
def Mb (F:Nat) (p0:zA) (p1:zG) (p2:Int) (p3:Int):Option (Int×Int) :=
  (C7 F p0 p1 p2 p3).bind λa5 =>
  exc a5 (λa1=>bif (a1 != 0) then (some (0,a1)) else (none)) (λa0=>bif (a0.2 != 0) then (some (0,a0.2)) else ((ck (p2*p1.Site.Gates)).bind λa3 =>
  (ck (a3+p3)).bind λa4 =>
  (F8 F (zF.mk (zG.mk (zM.mk a0.1.s.Site.Name a0.1.s.Site.X a0.1.s.Site.Y a0.1.s.Site.Z a0.1.s.Site.Rose a0.1.s.Site.Gates a0.1.s.Site.Step a0.1.s.Site.Width) a0.1.s.Tilt a0.1.s.Time a0.1.s.Rays) a0.1.n a0.1.tests a0.1.values) p0).bind λa6 =>
  (getI a6.1 a4).bind λa2 =>
  some (a2,0)))
def Au (p0:Int) (p1:Int):zC :=
  (zC.mk p0 p1)
def Ny (a0:List (List zJ)):Option zG :=
  (getI a0 0).bind λa1 =>
  (getI a1 1).bind λa4 =>
  (Ni a1 1 (zJ.mk 2 (Au 10 20) ((zC.mk 0 0),(zC.mk 0 0)) 7 (Au 100 100) (Au 900 950) (zC.mk 0 0))).bind λa2 =>
  (Ni a0 0 a2).bind λa3 =>
  some (zG.mk (zM.mk (⟨#[115]⟩:ByteArray) 0 0 0 1 2 500 0) 3 0 a3)
def Nx (k2:List (List zJ)->Int->Option zG) (a0:List (List zJ)) (a1:Int):Option zG :=
  bif (decide (a1<4)) then ((apd 24 a0 ([[(zJ.mk 1 (Au 0 5) ((zC.mk 0 0),(zC.mk 0 0)) 0 (zC.mk 0 0) (zC.mk 0 0) (zC.mk 0 0)),(zJ.mk 1 (Au 0 5) ((zC.mk 0 0),(zC.mk 0 0)) 0 (zC.mk 0 0) (zC.mk 0 0) (zC.mk 0 0))]])).bind λa2 =>
  (ck (a1+1)).bind λa3 =>
  k2 a2 a3) else (Ny a0)
def M3:Nat->List (List zJ)->Int->Option zG
  | 0,_,_=>none
  | n+1,a0,a1=>Nx (M3 n) a0 a1
def P8 (F:Nat):Option zG :=
  M3 F ([]) 0
def Gt (F:Nat) (p0:ByteArray) (p1:Int):Option Bool :=
  (Qd (⟨#[97,58,32]⟩:ByteArray) p0).bind λs1 =>
  (Qd s1 (⟨#[59]⟩:ByteArray)).bind λs2 =>
  (Ma F s2).bind λy4 =>
  bif (bif (y4.2.2 != 0) then true else (((y4.1.length:Nat):Int) != 1)) then (some false) else ((getI y4.1 0).bind λa1 =>
  (P8 F).bind λa2 =>
  (Mb F a1.When a2 0 1).bind λa0 =>
  some (bif (a0.2==0) then (a0.1==p1) else false))
def N5 (F:Nat):Option Bool :=
  (Ma F (⟨#[97,58,32,112,111,119,101,114,32,62,32,52,32,97,110,100,32,110,111,116,32,109,97,116,99,104,32,62,61,32,57,48,48,32,111,114,32,116,105,108,116,32,61,32,51,59]⟩:ByteArray)).bind λy2 =>
  (T7 F y2.1).bind λy9 =>
  (Ma F (⟨#[97,58,32,40,112,111,119,101,114,41,32,60,32,51,59]⟩:ByteArray)).bind λa8 =>
  (Ma F (⟨#[110,111,116,58,32,116,114,117,101,59]⟩:ByteArray)).bind λaD =>
  bif (bif (bif (bif (bif (bif (bif (bif (y2.2.2 != 0) then true else (y9.2 != 0)) then true else (a8.2.2 != 7)) then true else (aD.2.2 != 7)) then true else (y2.2.1 != 0)) then true else (a8.2.1 != 9)) then true else (aD.2.1 != 0)) then true else (!(sEq y9.1 (⟨#[97,58,32,40,40,40,112,111,119,101,114,32,62,32,52,41,32,97,110,100,32,110,111,116,32,40,109,97,116,99,104,32,62,61,32,57,48,48,41,41,32,111,114,32,40,116,105,108,116,32,61,32,51,41,41,59,10]⟩:ByteArray)))) then (some false) else ((Gt F (⟨#[112,111,119,101,114,32,62,32,57]⟩:ByteArray) 1).bind λa0 =>
  (gd (((!a0)==false&&true)) (Gt F (⟨#[112,111,119,101,114,32,62,32,49,48]⟩:ByteArray) 2) default).bind λa1 =>
  (gd (((bif (!a0) then true else (!a1))==false&&true)) (Gt F (⟨#[112,111,119,101,114,32,62,32,50,48]⟩:ByteArray) 3) default).bind λa3 =>
  (gd (((bif (bif (!a0) then true else (!a1)) then true else (!a3))==false&&true)) (Gt F (⟨#[116,117,114,110,32,61,32,48]⟩:ByteArray) 3) default).bind λa4 =>
  (gd (((bif (bif (bif (!a0) then true else (!a1)) then true else (!a3)) then true else (!a4))==false&&true)) (Gt F (⟨#[110,111,116,32,116,117,114,110,32,61,32,48]⟩:ByteArray) 1) default).bind λa5 =>
  (gd (((bif (bif (bif (bif (!a0) then true else (!a1)) then true else (!a3)) then true else (!a4)) then true else (!a5))==false&&true)) (Gt F (⟨#[99,111,117,110,116,32,49,32,49,32,107,105,110,100,32,61,32,49,32,61,32,53]⟩:ByteArray) 1) default).bind λa7 =>
  (gd (((bif (bif (bif (bif (bif (!a0) then true else (!a1)) then true else (!a3)) then true else (!a4)) then true else (!a5)) then true else (!a7))==false&&true)) (Gt F (⟨#[99,111,117,110,116,32,51,32,51,32,112,111,119,101,114,32,62,32,52,32,60,32,56]⟩:ByteArray) 1) default).bind λaE =>
  (gd (((bif (bif (bif (bif (bif (bif (!a0) then true else (!a1)) then true else (!a3)) then true else (!a4)) then true else (!a5)) then true else (!a7)) then true else (!aE))==false&&true)) (Gt F (⟨#[97,108,108,32,48,32,48,32,102,97,108,115,101]⟩:ByteArray) 1) default).bind λaQ =>
  bif (bif (bif (bif (bif (bif (bif (bif (!a0) then true else (!a1)) then true else (!a3)) then true else (!a4)) then true else (!a5)) then true else (!a7)) then true else (!aE)) then true else (!aQ)) then (some false) else ((Ma F (⟨#[97,58,32,109,97,116,99,104,32,60,32,57,50,48,59,32,98,58,32,107,105,110,100,32,61,32,50,59,32,99,58,32,116,114,117,101,59]⟩:ByteArray)).bind λaF =>
  (P8 F).bind λaR =>
  (Vy F aF.1 aR).bind λa2 =>
  bif (bif (bif (aF.2.2 != 0) then true else (a2.2 != 0)) then true else (((a2.1.length:Nat):Int) != 4)) then (some false) else ((getI a2.1 0).bind λaK =>
  bif (((aK.length:Nat):Int) != 2) then (some false) else ((getI a2.1 0).bind λaL =>
  (getI aL 1).bind λaM =>
  bif (aM.Rule != 1) then (some false) else ((getI a2.1 0).bind λaN =>
  (getI aN 1).bind λaO =>
  (Rt F aO.Doubts ([0])).bind λaP =>
  bif (!aP) then (some false) else ((getI a2.1 0).bind λaG =>
  (getI aG 0).bind λaH =>
  bif (aH.Rule != 2) then (some false) else ((getI a2.1 0).bind λaI =>
  (getI aI 0).bind λaJ =>
  bif (((aJ.Doubts.length:Nat):Int) != 0) then (some false) else ((Ma F (⟨#[97,58,32,115,111,109,101,32,49,32,50,32,99,111,117,110,116,32,50,32,48,32,112,111,119,101,114,32,62,32,49,32,62,32,51,59]⟩:ByteArray)).bind λa9 =>
  (W0 F a9.1).bind λa6 =>
  (Ma F (⟨#[97,58,32,110,111,116,32,40,112,111,119,101,114,32,62,32,49,32,97,110,100,32,110,111,116,32,115,111,109,101,32,49,32,49,32,116,114,117,101,41,59]⟩:ByteArray)).bind λaA =>
  (Vz F aA.1).bind λaB =>
  (T7 F aB.1).bind λaC =>
  some (bif (bif (bif (bif (bif (bif (bif (a9.2.2==0) then (a6.2.2==0) else false) then (aA.2.2==0) else false) then (aB.2==0) else false) then (aC.2==0) else false) then (a6.1==3) else false) then (a6.2.1==2) else false) then (sEq aC.1 (⟨#[97,58,32,40,110,111,116,32,40,112,111,119,101,114,32,62,32,49,41,32,111,114,32,115,111,109,101,32,49,32,49,32,116,114,117,101,41,59,10]⟩:ByteArray)) else false)))))))))
def P9 (p0:zE) (a0:List zA):Option zA :=
  some (zA.mk p0.Op p0.Value_ p0.Rays p0.Gates a0)
def Ml (self_:zE->Option zA) (p0:zE) (k2:List zA->Int->Option zA) (a1:List zA) (a0:Int):Option zA :=
  bif (decide (a0<((p0.Args.length:Nat):Int))) then ((getI p0.Args a0).bind λa3 =>
  (self_ a3).bind λa5 =>
  (apd 56 a1 ([a5])).bind λa2 =>
  (ck (a0+1)).bind λa4 =>
  k2 a2 a4) else (P9 p0 a1)
def Mm (self_:zE->Option zA) (p0:zE):Nat->List zA->Int->Option zA
  | 0,_,_=>none
  | n+1,a0,a1=>Ml self_ p0 (Mm self_ p0 n) a0 a1
def Sz (F:Nat) (self_:zE->Option zA) (p0:zE):Option zA :=
  Mm self_ p0 F ([]) 0
def K5:Nat->zE->Option zA
  | 0,_=>none
  | F+1,p0=>Sz F (K5 F) p0
def Pc:Option Bool :=
  some true
def Pb (p0:ByteArray) (k2:Int->Option Bool) (a1:Int):Option Bool :=
  bif (decide (a1<((p0.size:Nat):Int))) then ((R9 p0 a1).bind λa0 =>
  bif (bif (bif (bif (decide (a0<97)) then true else (decide (a0>122))) then (bif (decide (a0<48)) then true else (decide (a0>57))) else false) then (a0 != 95) else false) then (some false) else ((ck (a1+1)).bind λa2 =>
  k2 a2)) else (Pc)
def Kx (p0:ByteArray):Nat->Int->Option Bool
  | 0,_=>none
  | n+1,a0=>Pb p0 (Kx p0 n) a0
def Qv (F:Nat) (p0:ByteArray):Option Bool :=
  (gd (((bif (decide (((p0.size:Nat):Int)<1)) then true else (decide (((p0.size:Nat):Int)>12)))==false&&true)) (R9 p0 (0:Int)) default).bind λu1 =>
  (gd (((bif (bif (decide (((p0.size:Nat):Int)<1)) then true else (decide (((p0.size:Nat):Int)>12))) then true else (decide (u1<97)))==false&&true)) (R9 p0 (0:Int)) default).bind λu2 =>
  bif (bif (bif (bif (decide (((p0.size:Nat):Int)<1)) then true else (decide (((p0.size:Nat):Int)>12))) then true else (decide (u1<97))) then true else (decide (u2>122))) then (some false) else (Kx p0 F 0)
def Nf (a0:Int):Option Int :=
  (ck (1+a0)).bind λa1 =>
  some a1
def Lp (self_:zE->Option Int) (p0:zE) (k2:Int->Int->Option Int) (a0:Int) (a1:Int):Option Int :=
  bif (decide (a1<((p0.Args.length:Nat):Int))) then ((getI p0.Args a1).bind λa3 =>
  (self_ a3).bind λa2 =>
  (ck (a1+1)).bind λa4 =>
  k2 (if a2>a0 then a2 else a0) a4) else (Nf a0)
def Jn (self_:zE->Option Int) (p0:zE):Nat->Int->Int->Option Int
  | 0,_,_=>none
  | n+1,a0,a1=>Lp self_ p0 (Jn self_ p0 n) a0 a1
def Rv (F:Nat) (self_:zE->Option Int) (p0:zE):Option Int :=
  Jn self_ p0 F 0 0
def Gu:Nat->zE->Option Int
  | 0,_=>none
  | F+1,p0=>Rv F (Gu F) p0
def Ai (p0:Int) (p1:Int) (p2:Int):Bool :=
  bif (decide (p0>=p1)) then (decide (p0<=p2)) else false
abbrev Cc:=zE->Option Bool
abbrev E5:=zE->Option Bool
def J2:Option Bool :=
  some true
def Fv (s65_:Cc) (s101_:E5) (p0:zE) (k4:Int->Option Bool) (a0:Int):Option Bool :=
  bif (decide (a0<((p0.Args.length:Nat):Int))) then (bif (decide (p0.Op>=8)) then ((getI p0.Args a0).bind λa1 =>
  (s101_ a1).bind λa8 =>
  bif (!a8) then (some false) else (bif (decide (p0.Op<8)) then ((getI p0.Args a0).bind λa2 =>
  (s65_ a2).bind λa9 =>
  bif (!a9) then (some false) else ((ck (a0+1)).bind λa4 =>
  k4 a4)) else ((ck (a0+1)).bind λa5 =>
  k4 a5))) else (bif (decide (p0.Op<8)) then ((getI p0.Args a0).bind λa3 =>
  (s65_ a3).bind λaA =>
  bif (!aA) then (some false) else ((ck (a0+1)).bind λa6 =>
  k4 a6)) else ((ck (a0+1)).bind λa7 =>
  k4 a7))) else (J2)
def Dk (s65_:Cc) (s101_:E5) (p0:zE):Nat->Int->Option Bool
  | 0,_=>none
  | n+1,a0=>Fv s65_ s101_ p0 (Dk s65_ s101_ p0 n) a0
def Fx (F:Nat) (s65_:Cc) (s101_:E5) (p0:zE) (x7:Int):Option Bool :=
  bif (((p0.Args.length:Nat):Int) != x7) then (some false) else (Dk s65_ s101_ p0 F 0)
def Fw (F:Nat) (s65_:Cc) (s101_:E5) (p0:zE) (x6:Int):Option Bool :=
  bif (bif (bif (p0.Op==4) then true else (p0.Op==5)) then true else (decide (p0.Op>=8))) then (Fx F s65_ s101_ p0 2) else (Fx F s65_ s101_ p0 x6)
def J1 (F:Nat) (s65_:Cc) (s101_:E5) (p0:zE):Option Bool :=
  bif (bif (bif (bif (bif (bif (decide (p0.Op<1)) then true else (decide (p0.Op>13))) then true else (p0.Value_ != 0)) then true else (bif (bif (p0.Op != 6) then (p0.Op != 7) else false) then (bif (p0.Rays != 0) then true else (p0.Gates != 0)) else false)) then true else (!(Ai p0.Rays 0 3))) then true else (!(Ai p0.Gates 0 3))) then (some false) else (bif (decide (p0.Op<=2)) then (Fw F s65_ s101_ p0 0) else (Fw F s65_ s101_ p0 1))
def Mq (F:Nat) (s65_:Cc) (s101_:E5) (p0:zE):Option Bool :=
  bif (bif (bif (bif (bif (bif (bif (decide (p0.Op<14)) then true else (decide (p0.Op>27))) then true else (!(Ai p0.Value_ 0 1000000000))) then true else (bif (p0.Op != 14) then (p0.Value_ != 0) else false)) then true else (bif (p0.Op != 25) then (bif (p0.Rays != 0) then true else (p0.Gates != 0)) else false)) then true else (!(Ai p0.Rays 0 3))) then true else (!(Ai p0.Gates 0 3))) then (some false) else (bif (p0.Op==25) then (bif (((p0.Args.length:Nat):Int)==1) then ((getI p0.Args 0).bind λu7 =>
  (s65_ u7).bind λa3 =>
  some a3) else (some false)) else (bif (decide (p0.Op>=26)) then (bif (((p0.Args.length:Nat):Int)==2) then ((getI p0.Args 0).bind λa0 =>
  (s101_ a0).bind λa4 =>
  bif a4 then ((getI p0.Args 1).bind λa1 =>
  (s101_ a1).bind λa5 =>
  bif a5 then ((getI p0.Args 1).bind λa2 =>
  some (decide (a2.Op<26))) else (some false)) else (some false)) else (some false)) else (some (((p0.Args.length:Nat):Int)==0))))
def Bl:Nat->Cc×E5
  | 0=>(λ_=>none,λ_=>none)
  | F+1=>(J1 F (Bl F).1 (Bl F).2,Mq F (Bl F).1 (Bl F).2)
def Cw (F:Nat):Cc:=(Bl F).1
def Fy (F:Nat):E5:=(Bl F).2
def N9 (p0:zG) (a0:Int):Option Bool :=
  some (bif (decide (((p0.Rays.length:Nat):Int)<=16)) then (decide (a0<=60)) else false)
def Lg (p0:zG) (k2:Int->Int->Option Bool) (a1:Int) (a0:Int):Option Bool :=
  bif (decide (a0<((p0.Rays.length:Nat):Int))) then ((getI p0.Rays a0).bind λa2 =>
  (ck (a0+1)).bind λa3 =>
  k2 (IntKind.i64.wrap (a1+((a2.length:Nat):Int))) a3) else (N9 p0 a1)
def Lh (p0:zG):Nat->Int->Int->Option Bool
  | 0,_,_=>none
  | n+1,a0,a1=>Lg p0 (Lh p0 n) a0 a1
def Re (F:Nat) (p0:zG):Option Bool :=
  Lh p0 F 0 0
def Kr (F:Nat) (p0:zM):Option Int :=
  (Qv F p0.Name).bind λy2 =>
  bif (!y2) then (some 10) else (bif (bif (bif (bif (bif (bif (bif (!(Ai p0.X (-1048576) 1048576)) then true else (!(Ai p0.Y (-1048576) 1048576))) then true else (!(Ai p0.Z 0 20000))) then true else (!(Ai p0.Rose 1 90))) then true else (!(Ai p0.Gates 1 200))) then true else (!(Ai p0.Step 50 2000))) then true else (!(Ai p0.Width 0 8))) then (some 3) else (some 0))
def Ef (p0:zC) (p1:Int) (p2:Int):Bool :=
  bif (bif (decide (p0.Lo<=p0.Hi)) then (decide (p0.Lo>=p1)) else false) then (decide (p0.Hi<=p2)) else false
def Ln (F:Nat) (p0:zC):Option Bool :=
  (gd (((Ai p0.Lo (-32768) 32767)==true&&true)) (ck (p0.Lo+65536)) 0).bind λx2 =>
  (gd (((Ai p0.Lo (-32768) 32767)==true&&true)) (ck (x2-1)) 0).bind λx3 =>
  some (bif (Ai p0.Lo (-32768) 32767) then (Ai p0.Hi p0.Lo x3) else false)
def Ks (F:Nat) (p0:zJ):Option Int :=
  bif (bif (bif (p0.Kind != 1) then (p0.Kind != 2) else false) then (p0.Kind != 3) else false) then (some 2) else (bif (!(Ef p0.Power 0 1073741824)) then (some 3) else (bif (p0.Kind==1) then (bif (bif (bif (bif (bif (bif (bif (p0.Power.Lo != 0) then true else (!(((p0.Steps.1.Lo:Int)==0)&&(((p0.Steps.1.Hi:Int)==0)&&true)))) then true else (!(((p0.Steps.2.Lo:Int)==0)&&(((p0.Steps.2.Hi:Int)==0)&&true)))) then true else (p0.Spread != 0)) then true else (!(((p0.Ratio.Lo:Int)==0)&&(((p0.Ratio.Hi:Int)==0)&&true)))) then true else (!(((p0.Match.Lo:Int)==0)&&(((p0.Match.Hi:Int)==0)&&true)))) then true else (!(((p0.Turn.Lo:Int)==0)&&(((p0.Turn.Hi:Int)==0)&&true)))) then (some 3) else (some 0)) else (bif (bif (bif (bif (decide (p0.Power.Lo<1)) then true else (!(Ef p0.Ratio 0 1000000))) then true else (!(Ef p0.Match 0 1000))) then true else (!(Ai p0.Spread 0 65535))) then (some 3) else (bif (p0.Kind==2) then (bif (bif (bif (!(((p0.Steps.1.Lo:Int)==0)&&(((p0.Steps.1.Hi:Int)==0)&&true))) then true else (!(((p0.Steps.2.Lo:Int)==0)&&(((p0.Steps.2.Hi:Int)==0)&&true)))) then true else (!(((p0.Turn.Lo:Int)==0)&&(((p0.Turn.Hi:Int)==0)&&true)))) then (some 3) else (some 0)) else ((Ln F (zC.mk p0.Steps.1.Lo p0.Steps.1.Hi)).bind λy4 =>
  (gd (((!y4)==false&&true)) (Ln F (zC.mk p0.Steps.2.Lo p0.Steps.2.Hi)) default).bind λy5 =>
  (gd (((bif (!y4) then true else (!y5))==false&&true)) (Ln F p0.Turn) default).bind λy6 =>
  bif (bif (bif (!y4) then true else (!y5)) then true else (!y6)) then (some 3) else (some 0))))))
def Mg:Option Int :=
  some 0
def Jd (a0:Int) (k3:Int->Option Int):Option Int :=
  (ck (a0+1)).bind λa1 =>
  k3 a1
def Dv (F:Nat) (p0:zG) (a1:Int) (k3:Int->Option Int) (k5:Int->Option Int) (a2:Int):Option Int :=
  (getI p0.Rays a1).bind λa4 =>
  bif (decide (a2<((a4.length:Nat):Int))) then ((getI p0.Rays a1).bind λa5 =>
  (getI a5 a2).bind λa0 =>
  (Ks F (zJ.mk a0.Kind a0.Power ((zC.mk a0.Steps.1.Lo a0.Steps.1.Hi),(zC.mk a0.Steps.2.Lo a0.Steps.2.Hi)) a0.Spread a0.Ratio a0.Match a0.Turn)).bind λa3 =>
  bif (a3 != 0) then (some a3) else ((ck (a2+1)).bind λa6 =>
  k5 a6)) else (Jd a1 k3)
def Dx (F:Nat) (p0:zG) (a0:Int) (k3:Int->Option Int):Nat->Int->Option Int
  | 0,_=>none
  | n+1,a1=>Dv F p0 a0 k3 (Dx F p0 a0 k3 n) a1
def Du (F:Nat) (p0:zG) (k3:Int->Option Int) (a0:Int):Option Int :=
  bif (decide (a0<((p0.Rays.length:Nat):Int))) then (Dx F p0 a0 k3 F 0) else (Mg)
def D3 (F:Nat) (p0:zG):Nat->Int->Option Int
  | 0,_=>none
  | n+1,a0=>Du F p0 (D3 F p0 n) a0
def Jc (F:Nat) (p0:zG):Option Int :=
  D3 F p0 F 0
def Dw (F:Nat) (p0:zG) (k6:Int->Option Int) (a0:Int):Option Int :=
  bif (decide (a0<((p0.Rays.length:Nat):Int))) then ((getI p0.Rays a0).bind λa1 =>
  bif (((a1.length:Nat):Int) != p0.Site.Gates) then (some 11) else ((ck (a0+1)).bind λa2 =>
  k6 a2)) else (Jc F p0)
def Dy (F:Nat) (p0:zG):Nat->Int->Option Int
  | 0,_=>none
  | n+1,a0=>Dw F p0 (Dy F p0 n) a0
def Gz (F:Nat) (p0:zG):Option Int :=
  (Kr F p0.Site).bind λy6 =>
  bif (y6 != 0) then (some y6) else (bif (bif (!(Ai p0.Tilt 0 256)) then true else (!(Ai p0.Time 0 4294967296))) then (some 3) else ((ck (4*p0.Site.Rose)).bind λx7 =>
  bif (((p0.Rays.length:Nat):Int) != x7) then (some 11) else (Dy F p0 F 0)))
def Eg (F:Nat) (p0:zE) (p1:Bool) (p2:zG) (p3:Int) (p4:Int):Option Int :=
  (E0 F p0 300).bind λa5 =>
  bif (decide (a5>300)) then (some 9) else ((Gu F p0).bind λa6 =>
  bif (decide (a6>12)) then (some 24) else ((gd ((p1==true&&true)) (Cw F p0) default).bind λa2 =>
  (gd (((!p1)==true&&((bif p1 then (!a2) else false)==false&&true))) (Fy F p0) default).bind λa7 =>
  bif (bif (bif p1 then (!a2) else false) then true else (bif (!p1) then (!a7) else false)) then (some 2) else ((Gz F p2).bind λa0 =>
  (gd (((a0==0)==true&&true)) (ck (4*p2.Site.Rose)) 0).bind λa3 =>
  (gd (((a0==0)==true&&true)) (ck (a3-1)) 0).bind λa1 =>
  (gd (((!(Ai p3 0 a1))==false&&((a0==0)==true&&true))) (ck (p2.Site.Gates-1)) 0).bind λa4 =>
  bif (bif (a0==0) then (bif (!(Ai p3 0 a1)) then true else (!(Ai p4 0 a4))) else false) then (some 4) else (some a0))))
def Pe:Option Bool :=
  some false
def Mo (p0:Int) (p1:Int) (p3:Int) (p5:Int) (k2:Int->Option Bool) (a0:Int):Option Bool :=
  bif (decide (a0<=p5)) then ((ck (p1+a0)).bind λa1 =>
  (Ug a1 p0).bind λa2 =>
  (ck (a2+p0)).bind λa3 =>
  (Ug a3 p0).bind λa4 =>
  bif (a4==p3) then (some true) else ((ck (a0+1)).bind λa5 =>
  k2 a5)) else (Pe)
def Mp (p0:Int) (p1:Int) (p3:Int) (p5:Int):Nat->Int->Option Bool
  | 0,_=>none
  | n+1,a0=>Mo p0 p1 p3 p5 (Mp p0 p1 p3 p5 n) a0
def Qy (F:Nat) (p0:Int) (p1:Int) (p2:Int) (p3:Int) (p4:Int) (p5:Int) (p6:Int):Option Bool :=
  (gd (((bif (p1==p3) then (p2==p4) else false)==false&&true)) (ck (p2+p6)) 0).bind λx1 =>
  (gd (((bif (bif (p1==p3) then (p2==p4) else false) then true else (decide (p4>x1)))==false&&true)) (ck (p2-p6)) 0).bind λx2 =>
  bif (bif (bif (bif (p1==p3) then (p2==p4) else false) then true else (decide (p4>x1))) then true else (decide (p4<x2))) then (some false) else (Mp p0 p1 p3 p5 F (IntKind.i64.wrap (0-p5)))
def M8 (a0:Int) (a1:Int) (a2:Int):Option (Int×Int×Int) :=
  some (a0,a1,a2)
def M9 (a0:Int) (k2:Int->Int->Int->Int->Option (Int×Int×Int)) (a1:Int) (a2:Int) (a3:Int):Option (Int×Int×Int) :=
  (ck (a0+1)).bind λa4 =>
  k2 a1 a2 a3 a4
def Fm (a0:Int) (k4:Int->Int->Int->Int->Option (Int×Int×Int)) (a1:Int) (a2:Int) (a3:Int):Option (Int×Int×Int) :=
  (ck (a0+1)).bind λa4 =>
  k4 a1 a2 a3 a4
def Jv (p0:List (List Int)) (a6:Int) (a1:Int) (a0:Int) (k4:Int->Int->Int->Int->Option (Int×Int×Int)) (a2:Int) (a3:Int):Option (Int×Int×Int) :=
  (getI p0 a6).bind λa4 =>
  (getI a4 a0).bind λa5 =>
  bif (a5 != 3) then ((ck (a1+1)).bind λa7 =>
  Fm a0 k4 a3 a7 a2) else (Fm a0 k4 a3 a1 a2)
def Ju (F:Nat) (p0:List (List Int)) (p1:Int) (p2:Int) (p3:Int) (p4:Int) (a0:Int) (k2:Int->Int->Int->Int->Option (Int×Int×Int)) (k4:Int->Int->Int->Int->Option (Int×Int×Int)) (a2:Int) (a3:Int) (a4:Int) (a1:Int):Option (Int×Int×Int) :=
  (getI p0 a0).bind λa6 =>
  bif (decide (a1<((a6.length:Nat):Int))) then ((Qy F ((p0.length:Nat):Int) p1 p2 a0 a1 p3 p4).bind λaA =>
  bif (!aA) then (Fm a1 k4 a2 a3 a4) else ((ck (a4+1)).bind λa5 =>
  (getI p0 a0).bind λa7 =>
  (getI a7 a1).bind λa8 =>
  bif (a8==1) then ((ck (a2+1)).bind λa9 =>
  Jv p0 a0 a3 a1 k4 a5 a9) else (Jv p0 a0 a3 a1 k4 a5 a2))) else (M9 a0 k2 a2 a3 a4)
def Jw (F:Nat) (p0:List (List Int)) (p1:Int) (p2:Int) (p3:Int) (p4:Int) (a0:Int) (k2:Int->Int->Int->Int->Option (Int×Int×Int)):Nat->Int->Int->Int->Int->Option (Int×Int×Int)
  | 0,_,_,_,_=>none
  | n+1,a1,a2,a3,a4=>Ju F p0 p1 p2 p3 p4 a0 k2 (Jw F p0 p1 p2 p3 p4 a0 k2 n) a1 a2 a3 a4
def Jt (F:Nat) (p0:List (List Int)) (p1:Int) (p2:Int) (p3:Int) (p4:Int) (k2:Int->Int->Int->Int->Option (Int×Int×Int)) (a0:Int) (a1:Int) (a2:Int) (a3:Int):Option (Int×Int×Int) :=
  bif (decide (a3<((p0.length:Nat):Int))) then (Jw F p0 p1 p2 p3 p4 a3 k2 F a0 a1 a2 0) else (M8 a0 a1 a2)
def H4 (F:Nat) (p0:List (List Int)) (p1:Int) (p2:Int) (p3:Int) (p4:Int):Nat->Int->Int->Int->Int->Option (Int×Int×Int)
  | 0,_,_,_,_=>none
  | n+1,a0,a1,a2,a3=>Jt F p0 p1 p2 p3 p4 (H4 F p0 p1 p2 p3 p4 n) a0 a1 a2 a3
def Ky (F:Nat) (p0:List (List Int)) (p1:Int) (p2:Int) (p3:Int) (p4:Int):Option (Int×Int×Int) :=
  H4 F p0 p1 p2 p3 p4 F 0 0 0 0
def Qe (F:Nat) (p0:zE) (p1:zG) (p2:Int) (p3:Int):Option Int :=
  bif (p0.Op==14) then (some p0.Value_) else (bif (p0.Op==18) then ((getI p1.Rays p2).bind λa0 =>
  (getI a0 p3).bind λa1 =>
  some a1.Spread) else (bif (p0.Op==21) then ((getI p1.Rays p2).bind λa2 =>
  (getI a2 p3).bind λa3 =>
  some a3.Kind) else (bif (p0.Op==22) then (some p2) else (bif (p0.Op==23) then (some p3) else (bif (p0.Op==24) then (some p1.Tilt) else (some 0))))))
def Ez (p0:zE) (a0:zJ) (a1:Int) (a2:Int):Option zH :=
  bif (bif (bif (bif (a0.Kind==1) then (decide (p0.Op>=16)) else false) then (decide (p0.Op<=20)) else false) then true else (bif (a0.Kind != 3) then (bif (p0.Op==19) then true else (p0.Op==20)) else false)) then (some (zH.mk (zC.mk 0 0) false)) else (some (zH.mk (zC.mk a1 a2) true))
def Pw (F:Nat) (p0:zE) (p1:zG) (p2:Int) (p3:Int):Option zH :=
  (getI p1.Rays p2).bind λa2 =>
  (getI a2 p3).bind λa0 =>
  (Qe F p0 p1 p2 p3).bind λa1 =>
  bif (p0.Op==15) then (Ez p0 a0 a0.Power.Lo a0.Power.Hi) else (bif (p0.Op==16) then (Ez p0 a0 a0.Ratio.Lo a0.Ratio.Hi) else (bif (p0.Op==17) then (Ez p0 a0 a0.Match.Lo a0.Match.Hi) else (bif (p0.Op==19) then (Ez p0 a0 a0.Turn.Lo a0.Turn.Hi) else (bif (p0.Op==20) then (Ez p0 a0 a0.Steps.1.Lo a0.Steps.1.Hi) else (Ez p0 a0 a1 a1)))))
def Hk (F:Nat) (p0:Int):Option Int :=
  (ck (4-p0)).bind λx1 =>
  some x1
def G6 (a0:Bool) (a1:Bool):Option Int :=
  bif a1 then (some 1) else (bif a0 then (some 3) else (some 2))
def C2 (p0:Int) (p1:zH) (p2:zH) (a0:Bool) (a1:Bool):Option Int :=
  bif (p0==12) then (G6 (bif (decide (p1.Span.Hi<p2.Span.Lo)) then true else (decide (p2.Span.Hi<p1.Span.Lo))) (bif (p1.Span.Lo==p1.Span.Hi) then (((p1.Span.Lo:Int)==p2.Span.Lo)&&(((p1.Span.Hi:Int)==p2.Span.Hi)&&true)) else false)) else (G6 a0 a1)
def Fl (F:Nat) (self_:Int->zH->zH->Option Int) (p0:Int) (p1:zH) (p2:zH):Option Int :=
  bif (bif (!p1.Has) then true else (!p2.Has)) then (some 3) else (bif (p0==10) then ((self_ 8 p2 p1).bind λa0 =>
  some a0) else (bif (p0==11) then ((self_ 9 p2 p1).bind λa1 =>
  some a1) else (bif (p0==13) then ((self_ 12 p1 p2).bind λa2 =>
  (Hk F a2).bind λa3 =>
  some a3) else (bif (p0==9) then (C2 p0 p1 p2 (decide (p1.Span.Lo>p2.Span.Hi)) (decide (p1.Span.Hi<=p2.Span.Lo))) else (C2 p0 p1 p2 (decide (p1.Span.Lo>=p2.Span.Hi)) (decide (p1.Span.Hi<p2.Span.Lo)))))))
def Cv:Nat->Int->zH->zH->Option Int
  | 0,_,_,_=>none
  | F+1,p0,p1,p2=>Fl F (Cv F) p0 p1 p2
abbrev Fp:=zE->zG->Option (List (List Int))
abbrev Cu:=zE->zG->Option (List (List zH))
def M6 (a0:List (List Int)):Option (List (List Int)) :=
  some a0
def M7 (a1:Int) (k3:List (List Int)->Int->Option (List (List Int))) (a0:List (List Int)):Option (List (List Int)) :=
  (ck (a1+1)).bind λa2 =>
  k3 a0 a2
def Jq (a0:List (List Int)) (a3:Int) (k3:List (List Int)->Int->Option (List (List Int))) (a1:List Int):Option (List (List Int)) :=
  (apd 24 a0 ([a1])).bind λa2 =>
  M7 a3 k3 a2
def C0 (a0:List Int) (a2:Int) (k6:List Int->Int->Option (List (List Int))) (a3:Int):Option (List (List Int)) :=
  (apd 8 a0 ([a3])).bind λa1 =>
  (ck (a2+1)).bind λa4 =>
  k6 a1 a4
def D0 (F:Nat) (p0:zE) (p1:zG) (a3:List (List (List Int))) (a5:List (List (List zH))) (aA:List (List Int)) (a2:Int) (k3:List (List Int)->Int->Option (List (List Int))) (k6:List Int->Int->Option (List (List Int))) (a1:List Int) (a0:Int):Option (List (List Int)) :=
  (getI p1.Rays a2).bind λaB =>
  bif (decide (a0<((aB.length:Nat):Int))) then (bif (p0.Op==1) then (C0 a1 a0 k6 1) else (bif (p0.Op==3) then ((getI a3 0).bind λaC =>
  (getI aC a2).bind λaD =>
  (getI aD a0).bind λaE =>
  (Hk F aE).bind λaU =>
  C0 a1 a0 k6 aU) else (bif (p0.Op==4) then ((getI a3 0).bind λaF =>
  (getI aF a2).bind λaG =>
  (getI aG a0).bind λa6 =>
  (getI a3 1).bind λaH =>
  (getI aH a2).bind λaI =>
  (getI aI a0).bind λa7 =>
  C0 a1 a0 k6 (if a7>a6 then a7 else a6)) else (bif (p0.Op==5) then ((getI a3 0).bind λaJ =>
  (getI aJ a2).bind λaK =>
  (getI aK a0).bind λa8 =>
  (getI a3 1).bind λaL =>
  (getI aL a2).bind λaM =>
  (getI aM a0).bind λa9 =>
  C0 a1 a0 k6 (if a9<a8 then a9 else a8)) else (bif (bif (p0.Op==6) then true else (p0.Op==7)) then ((getI a3 0).bind λaN =>
  (Ky F aN a2 a0 p0.Rays p0.Gates).bind λa4 =>
  bif (bif (bif (p0.Op==6) then (decide (a4.1>0)) else false) then true else (bif (p0.Op==7) then (a4.1==a4.2.2) else false)) then (C0 a1 a0 k6 1) else (bif (bif (bif (p0.Op==6) then (a4.2.1==0) else false) then true else (bif (p0.Op==7) then (decide (a4.2.1<a4.2.2)) else false)) then (C0 a1 a0 k6 3) else (C0 a1 a0 k6 2))) else (bif (decide (p0.Op>=8)) then ((getI a5 0).bind λaO =>
  (getI aO a2).bind λaP =>
  (getI aP a0).bind λaQ =>
  (getI a5 1).bind λaR =>
  (getI aR a2).bind λaS =>
  (getI aS a0).bind λaT =>
  (Cv F p0.Op aQ aT).bind λaV =>
  C0 a1 a0 k6 aV) else (C0 a1 a0 k6 3))))))) else (Jq aA a2 k3 a1)
def H3 (F:Nat) (p0:zE) (p1:zG) (a1:List (List (List Int))) (a2:List (List (List zH))) (a0:List (List Int)) (a3:Int) (k3:List (List Int)->Int->Option (List (List Int))):Nat->List Int->Int->Option (List (List Int))
  | 0,_,_=>none
  | n+1,a4,a5=>D0 F p0 p1 a1 a2 a0 a3 k3 (H3 F p0 p1 a1 a2 a0 a3 k3 n) a4 a5
def Jp (F:Nat) (p0:zE) (p1:zG) (a2:List (List (List Int))) (a3:List (List (List zH))) (k3:List (List Int)->Int->Option (List (List Int))) (a0:List (List Int)) (a1:Int):Option (List (List Int)) :=
  bif (decide (a1<((p1.Rays.length:Nat):Int))) then (H3 F p0 p1 a2 a3 a0 a1 k3 F ([]) 0) else (M6 a0)
def H0 (F:Nat) (p0:zE) (p1:zG) (a0:List (List (List Int))) (a1:List (List (List zH))):Nat->List (List Int)->Int->Option (List (List Int))
  | 0,_,_=>none
  | n+1,a2,a3=>Jp F p0 p1 a0 a1 (H0 F p0 p1 a0 a1 n) a2 a3
def M5 (F:Nat) (p0:zE) (p1:zG) (a0:List (List (List Int))) (a1:List (List (List zH))):Option (List (List Int)) :=
  H0 F p0 p1 a0 a1 F ([]) 0
def Dm (a2:Int) (k8:List (List (List Int))->List (List (List zH))->Int->Option (List (List Int))) (a0:List (List (List Int))) (a1:List (List (List zH))):Option (List (List Int)) :=
  (ck (a2+1)).bind λa3 =>
  k8 a0 a1 a3
def B5 (F:Nat) (s82_:Fp) (s85_:Cu) (p0:zE) (p1:zG) (k8:List (List (List Int))->List (List (List zH))->Int->Option (List (List Int))) (a1:List (List (List Int))) (a2:List (List (List zH))) (a0:Int):Option (List (List Int)) :=
  bif (decide (a0<((p0.Args.length:Nat):Int))) then (bif (decide (p0.Op>=8)) then ((getI p0.Args a0).bind λa5 =>
  (s85_ a5 p1).bind λa7 =>
  (apd 24 a2 ([a7])).bind λa3 =>
  Dm a0 k8 a1 a3) else ((getI p0.Args a0).bind λa6 =>
  (s82_ a6 p1).bind λa8 =>
  (apd 24 a1 ([a8])).bind λa4 =>
  Dm a0 k8 a4 a2)) else (M5 F p0 p1 a1 a2)
def Jr (F:Nat) (s82_:Fp) (s85_:Cu) (p0:zE) (p1:zG):Nat->List (List (List Int))->List (List (List zH))->Int->Option (List (List Int))
  | 0,_,_,_=>none
  | n+1,a0,a1,a2=>B5 F s82_ s85_ p0 p1 (Jr F s82_ s85_ p0 p1 n) a0 a1 a2
def Rx (F:Nat) (s82_:Fp) (s85_:Cu) (p0:zE) (p1:zG):Option (List (List Int)) :=
  Jr F s82_ s85_ p0 p1 F ([]) ([]) 0
def Lb (a0:List (List zH)):Option (List (List zH)) :=
  some a0
def Lc (a1:Int) (k4:List (List zH)->Int->Option (List (List zH))) (a0:List (List zH)):Option (List (List zH)) :=
  (ck (a1+1)).bind λa2 =>
  k4 a0 a2
def Hw (a0:List (List zH)) (a3:Int) (k4:List (List zH)->Int->Option (List (List zH))) (a1:List zH):Option (List (List zH)) :=
  (apd 24 a0 ([a1])).bind λa2 =>
  Lc a3 k4 a2
def Da (a1:List zH) (a3:Int) (k7:List zH->Int->Option (List (List zH))) (a4:Int) (a5:Int) (a0:Bool):Option (List (List zH)) :=
  (apd 24 a1 ([(zH.mk (zC.mk a4 a5) a0)])).bind λa2 =>
  (ck (a3+1)).bind λa6 =>
  k7 a2 a6
def D9 (F:Nat) (p0:zE) (p1:zG) (a9:List (List Int)) (a6:List (List (List zH))) (a8:List (List zH)) (a4:Int) (k4:List (List zH)->Int->Option (List (List zH))) (k7:List zH->Int->Option (List (List zH))) (a1:List zH) (a0:Int):Option (List (List zH)) :=
  (getI p1.Rays a4).bind λaA =>
  bif (decide (a0<((aA.length:Nat):Int))) then (bif (p0.Op==25) then ((Ky F a9 a4 a0 p0.Rays p0.Gates).bind λa7 =>
  Da a1 a0 k7 a7.1 a7.2.1 true) else (bif (decide (p0.Op>=26)) then ((getI a6 0).bind λaB =>
  (getI aB a4).bind λaC =>
  (getI aC a0).bind λa2 =>
  (getI a6 1).bind λaD =>
  (getI aD a4).bind λaE =>
  (getI aE a0).bind λa3 =>
  bif (bif (bif a2.Has then a3.Has else false) then (p0.Op==26) else false) then ((ck (a2.Span.Lo+a3.Span.Lo)).bind λaF =>
  (ck (a2.Span.Hi+a3.Span.Hi)).bind λaG =>
  Da a1 a0 k7 aF aG true) else (bif (bif a2.Has then a3.Has else false) then ((ck (a2.Span.Lo-a3.Span.Hi)).bind λaH =>
  (ck (a2.Span.Hi-a3.Span.Lo)).bind λaI =>
  Da a1 a0 k7 aH aI true) else (Da a1 a0 k7 0 0 false))) else ((Pw F p0 p1 a4 a0).bind λa5 =>
  Da a1 a0 k7 a5.Span.Lo a5.Span.Hi a5.Has))) else (Hw a8 a4 k4 a1)
def G5 (F:Nat) (p0:zE) (p1:zG) (a2:List (List Int)) (a1:List (List (List zH))) (a0:List (List zH)) (a3:Int) (k4:List (List zH)->Int->Option (List (List zH))):Nat->List zH->Int->Option (List (List zH))
  | 0,_,_=>none
  | n+1,a4,a5=>D9 F p0 p1 a2 a1 a0 a3 k4 (G5 F p0 p1 a2 a1 a0 a3 k4 n) a4 a5
def Hv (F:Nat) (p0:zE) (p1:zG) (a3:List (List Int)) (a2:List (List (List zH))) (k4:List (List zH)->Int->Option (List (List zH))) (a0:List (List zH)) (a1:Int):Option (List (List zH)) :=
  bif (decide (a1<((p1.Rays.length:Nat):Int))) then (G5 F p0 p1 a3 a2 a0 a1 k4 F ([]) 0) else (Lb a0)
def G4 (F:Nat) (p0:zE) (p1:zG) (a1:List (List Int)) (a0:List (List (List zH))):Nat->List (List zH)->Int->Option (List (List zH))
  | 0,_,_=>none
  | n+1,a2,a3=>Hv F p0 p1 a1 a0 (G4 F p0 p1 a1 a0 n) a2 a3
def La (F:Nat) (p0:zE) (p1:zG) (a1:List (List Int)) (a0:List (List (List zH))):Option (List (List zH)) :=
  G4 F p0 p1 a1 a0 F ([]) 0
def Bs (F:Nat) (s85_:Cu) (p0:zE) (p1:zG) (a3:List (List Int)) (k9:List (List (List zH))->Int->Option (List (List zH))) (a1:List (List (List zH))) (a0:Int):Option (List (List zH)) :=
  bif (bif (decide (a0<((p0.Args.length:Nat):Int))) then (decide (p0.Op>=26)) else false) then ((getI p0.Args a0).bind λa4 =>
  (s85_ a4 p1).bind λa6 =>
  (apd 24 a1 ([a6])).bind λa2 =>
  (ck (a0+1)).bind λa5 =>
  k9 a2 a5) else (La F p0 p1 a3 a1)
def J0 (F:Nat) (s85_:Cu) (p0:zE) (p1:zG) (a0:List (List Int)):Nat->List (List (List zH))->Int->Option (List (List zH))
  | 0,_,_=>none
  | n+1,a1,a2=>Bs F s85_ p0 p1 a0 (J0 F s85_ p0 p1 a0 n) a1 a2
def Ey (F:Nat) (s85_:Cu) (p0:zE) (p1:zG) (a0:List (List Int)):Option (List (List zH)) :=
  J0 F s85_ p0 p1 a0 F ([]) 0
def Ex (F:Nat) (s82_:Fp) (s85_:Cu) (p0:zE) (p1:zG):Option (List (List zH)) :=
  bif (p0.Op==25) then ((getI p0.Args 0).bind λa0 =>
  (s82_ a0 p1).bind λa1 =>
  Ey F s85_ p0 p1 a1) else (Ey F s85_ p0 p1 ([]))
def C6:Nat->Fp×Cu
  | 0=>(λ_ _=>none,λ_ _=>none)
  | F+1=>(Rx F (C6 F).1 (C6 F).2,Ex F (C6 F).1 (C6 F).2)
def Dj (F:Nat):Fp:=(C6 F).1
def Bo (F:Nat):Cu:=(C6 F).2
def My (F:Nat) (p0:zE) (p1:zG) (p2:Int) (p3:Int):Option (Int×Int) :=
  (Eg F p0 true p1 p2 p3).bind λa0 =>
  bif (a0 != 0) then (some (0,a0)) else ((Dj F p0 p1).bind λa3 =>
  (getI a3 p2).bind λa1 =>
  (getI a1 p3).bind λa2 =>
  some (a2,0))
def C8 (F:Nat) (p0:zA) (p2:zG) (p3:Int) (p4:Int):Option (Except Int (zF×Int)) :=
  (Bp F p0 300).bind λa1 =>
  bif (decide (a1>300)) then (some (.error 9)) else ((Fo F p0).bind λa2 =>
  bif (decide (a2>12)) then (some (.error 24)) else ((gd (((!(sift_isValue p0))==false&&true)) (Bq F p0) default).bind λa3 =>
  bif (bif (!(sift_isValue p0)) then true else (!a3)) then (some (.error 2)) else ((C5 F p2).bind λa0 =>
  bif (a0 != 0) then (some (.error a0)) else (bif (bif (bif (decide ((if p4<p3 then p4 else p3)<0)) then true else (decide (p3>=((p2.Rays.length:Nat):Int)))) then true else (decide (p4>=p2.Site.Gates))) then (some (.error 4)) else ((Gr F p2).bind λa4 =>
  some (.ok (a4,0)))))))
def Ls (F:Nat) (p0:zA) (p1:zG) (p2:Int) (p3:Int):Option (zC×Bool×Int) :=
  (C8 F p0 p1 p2 p3).bind λa5 =>
  exc a5 (λa1=>bif (a1 != 0) then (some ((zC.mk 0 0),false,a1)) else (none)) (λa0=>bif (a0.2 != 0) then (some ((zC.mk 0 0),false,a0.2)) else ((ck (p2*p1.Site.Gates)).bind λa3 =>
  (ck (a3+p3)).bind λa4 =>
  (Fj F (zF.mk (zG.mk (zM.mk a0.1.s.Site.Name a0.1.s.Site.X a0.1.s.Site.Y a0.1.s.Site.Z a0.1.s.Site.Rose a0.1.s.Site.Gates a0.1.s.Site.Step a0.1.s.Site.Width) a0.1.s.Tilt a0.1.s.Time a0.1.s.Rays) a0.1.n a0.1.tests a0.1.values) p0).bind λa6 =>
  (getI a6.1 a4).bind λa2 =>
  some (a2.span,a2.has,0)))
def Lr (F:Nat) (p0:zE) (p1:zG) (p2:Int) (p3:Int):Option (zC×Bool×Int) :=
  (Eg F p0 false p1 p2 p3).bind λa1 =>
  bif (a1 != 0) then (some ((zC.mk 0 0),false,a1)) else ((Bo F p0 p1).bind λa3 =>
  (getI a3 p2).bind λa2 =>
  (getI a2 p3).bind λa0 =>
  some (a0.Span,a0.Has,0))
def Kn (F:Nat) (p0:zE) (p1:zG) (p2:Int) (p3:Int):Option Bool :=
  (E0 F p0 400).bind λa2 =>
  (gd (((bif (bif (decide (a2>60)) then (decide (a2<=300)) else false) then true else (decide (a2>400)))==false&&true)) (Re F p1) default).bind λa5 =>
  bif (bif (bif (bif (decide (a2>60)) then (decide (a2<=300)) else false) then true else (decide (a2>400))) then true else (!a5)) then ((N5 F).bind λa6 =>
  some a6) else ((K5 F p0).bind λa7 =>
  (Mb F a7 p1 p2 p3).bind λa3 =>
  (My F p0 p1 p2 p3).bind λa4 =>
  bif (bif (a3.1 != a4.1) then true else (a3.2 != a4.2)) then (some false) else ((K5 F p0).bind λa8 =>
  (Ls F a8 p1 p2 p3).bind λa0 =>
  (Lr F p0 p1 p2 p3).bind λa1 =>
  (gd (((bif (bif (((a0.1.Lo:Int)==a1.1.Lo)&&(((a0.1.Hi:Int)==a1.1.Hi)&&true)) then (a0.2.1==a1.2.1) else false) then (a0.2.2==a1.2.2) else false)==true&&true)) (N5 F) default).bind λa9 =>
  some (bif (bif (bif (((a0.1.Lo:Int)==a1.1.Lo)&&(((a0.1.Hi:Int)==a1.1.Hi)&&true)) then (a0.2.1==a1.2.1) else false) then (a0.2.2==a1.2.2) else false) then a9 else false)))
end Go.Proofs.YtkjnafecmjakcaaGreatDoor
