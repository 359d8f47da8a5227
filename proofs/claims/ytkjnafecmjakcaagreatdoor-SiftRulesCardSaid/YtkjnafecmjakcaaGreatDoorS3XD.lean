import Derived.Test.YtkjnafecmjakcaaGreatDoorS3EB
namespace Go.Proofs.YtkjnafecmjakcaaGreatDoor
open Go Go.RowKit Go.Eng
set_option maxRecDepth 10000
set_option maxHeartbeats 4000000
set_option linter.unusedVariables false
set_option linter.unusedSimpArgs false
structure ref04_Node where
  Op:Int
  Value_:Int
  Rays:Int
  Gates:Int
  Args:(List ref04_Node)
  deriving Inhabited
structure ref04_Rule where
  Name:ByteArray
  When:ref04_Node
  deriving Inhabited
structure sift_Node where
  Op:Int
  Value_:Int
  Rays:Int
  Gates:Int
  Args:(List sift_Node)
  deriving Inhabited
structure sift_Rule where
  Name:ByteArray
  When:sift_Node
  deriving Inhabited
structure api_Site where
  Name:ByteArray
  X:Int
  Y:Int
  Z:Int
  Rose:Int
  Gates:Int
  Step:Int
  Width:Int
  deriving Inhabited,DecidableEq
def api_Site.cells (x:api_Site):List Value:=[.string x.Name,.int .i64 x.X,.int .i64 x.Y,.int .i64 x.Z,.int .i64 x.Rose,.int .i64 x.Gates,.int .i64 x.Step,.int .i64 x.Width]
structure api_Span where
  Lo:Int
  Hi:Int
  deriving Inhabited,DecidableEq
def api_Span.cells (x:api_Span):List Value:=[.int .i64 x.Lo,.int .i64 x.Hi]
theorem api_Span.cells_len (x:api_Span):(api_Span.cells x).length=2:=rfl
structure api_Echo where
  Kind:Int
  Power:api_Span
  Steps:(api_Span×api_Span)
  Spread:Int
  Ratio:api_Span
  Match:api_Span
  Turn:api_Span
  deriving Inhabited,DecidableEq
def api_Echo.cells (x:api_Echo):List Value:=[.int .i64 x.Kind,.int .i64 x.Power.Lo,.int .i64 x.Power.Hi,.int .i64 x.Steps.1.Lo,.int .i64 x.Steps.1.Hi,.int .i64 x.Steps.2.Lo,.int .i64 x.Steps.2.Hi,.int .i64 x.Spread,.int .i64 x.Ratio.Lo,.int .i64 x.Ratio.Hi,.int .i64 x.Match.Lo,.int .i64 x.Match.Hi,.int .i64 x.Turn.Lo,.int .i64 x.Turn.Hi]
theorem api_Echo.cells_len (x:api_Echo):(api_Echo.cells x).length=14:=rfl
structure api_Sweep where
  Site:api_Site
  Tilt:Int
  Time:Int
  Rays:(List (List api_Echo))
  deriving Inhabited,DecidableEq
structure sift_val where
  span:api_Span
  has:Bool
  deriving Inhabited,DecidableEq
def sift_val.cells (x:sift_val):List Value:=[.int .i64 x.span.Lo,.int .i64 x.span.Hi,.bool x.has]
theorem sift_val.cells_len (x:sift_val):(sift_val.cells x).length=3:=rfl
structure sift_scan where
  s:api_Sweep
  n:Int
  tests:(List (ByteArray×(List Int)))
  values:(List (ByteArray×(List sift_val)))
  deriving Inhabited,DecidableEq
structure sift_Verdict where
  Rule:Int
  Doubts:(List Int)
  deriving Inhabited,DecidableEq
structure sift_reader where
  s:ByteArray
  at_:Int
  token:ByteArray
  from_:Int
  deriving Inhabited,DecidableEq
def sift_reader.cells (x:sift_reader):List Value:=[.string x.s,.int .i64 x.at_,.string x.token,.int .i64 x.from_]
abbrev api_Site.ar (x:api_Site):Array Value:=#[.string x.Name,.int .i64 x.X,.int .i64 x.Y,.int .i64 x.Z,.int .i64 x.Rose,.int .i64 x.Gates,.int .i64 x.Step,.int .i64 x.Width]
abbrev api_Site.ag (x:api_Site):Value:=.agg #[.string x.Name,.int .i64 x.X,.int .i64 x.Y,.int .i64 x.Z,.int .i64 x.Rose,.int .i64 x.Gates,.int .i64 x.Step,.int .i64 x.Width]
abbrev api_Echo.ar (x:api_Echo):Array Value:=#[.int .i64 x.Kind,.int .i64 x.Power.Lo,.int .i64 x.Power.Hi,.int .i64 x.Steps.1.Lo,.int .i64 x.Steps.1.Hi,.int .i64 x.Steps.2.Lo,.int .i64 x.Steps.2.Hi,.int .i64 x.Spread,.int .i64 x.Ratio.Lo,.int .i64 x.Ratio.Hi,.int .i64 x.Match.Lo,.int .i64 x.Match.Hi,.int .i64 x.Turn.Lo,.int .i64 x.Turn.Hi]
abbrev api_Echo.ag (x:api_Echo):Value:=.agg #[.int .i64 x.Kind,.int .i64 x.Power.Lo,.int .i64 x.Power.Hi,.int .i64 x.Steps.1.Lo,.int .i64 x.Steps.1.Hi,.int .i64 x.Steps.2.Lo,.int .i64 x.Steps.2.Hi,.int .i64 x.Spread,.int .i64 x.Ratio.Lo,.int .i64 x.Ratio.Hi,.int .i64 x.Match.Lo,.int .i64 x.Match.Hi,.int .i64 x.Turn.Lo,.int .i64 x.Turn.Hi]
abbrev sift_val.ag (x:sift_val):Value:=.agg #[.int .i64 x.span.Lo,.int .i64 x.span.Hi,.bool x.has]
abbrev sift_reader.ar (x:sift_reader):Array Value:=#[.string x.s,.int .i64 x.at_,.string x.token,.int .i64 x.from_]
abbrev sift_scan.ax (x:sift_scan) (adg1_:Option Addr) (capg2_:Nat) (mg4_:Nat) (mg5_:Nat):Array Value:=#[.string x.s.Site.Name,.int .i64 x.s.Site.X,.int .i64 x.s.Site.Y,.int .i64 x.s.Site.Z,.int .i64 x.s.Site.Rose,.int .i64 x.s.Site.Gates,.int .i64 x.s.Site.Step,.int .i64 x.s.Site.Width,.int .i64 x.s.Tilt,.int .i64 x.s.Time,.slice adg1_ x.s.Rays.length capg2_,.int .i64 x.n,.map (some mg4_),.map (some mg5_)]
abbrev api_Sweep.ax (x:api_Sweep) (adg1_:Option Addr) (capg2_:Nat):Array Value:=#[.string x.Site.Name,.int .i64 x.Site.X,.int .i64 x.Site.Y,.int .i64 x.Site.Z,.int .i64 x.Site.Rose,.int .i64 x.Site.Gates,.int .i64 x.Site.Step,.int .i64 x.Site.Width,.int .i64 x.Tilt,.int .i64 x.Time,.slice adg1_ x.Rays.length capg2_]
abbrev sift_Rule.ax (x:sift_Rule) (adg1_:Option Addr) (capg2_:Nat):Array Value:=#[.string x.Name,.int .i64 x.When.Op,.int .i64 x.When.Value_,.int .i64 x.When.Rays,.int .i64 x.When.Gates,.slice adg1_ x.When.Args.length capg2_]
abbrev ref04_Node.ax (x:ref04_Node) (adg1_:Option Addr) (capg2_:Nat):Array Value:=#[.int .i64 x.Op,.int .i64 x.Value_,.int .i64 x.Rays,.int .i64 x.Gates,.slice adg1_ x.Args.length capg2_]
abbrev sift_Node.ax (x:sift_Node) (adg1_:Option Addr) (capg2_:Nat):Array Value:=#[.int .i64 x.Op,.int .i64 x.Value_,.int .i64 x.Rays,.int .i64 x.Gates,.slice adg1_ x.Args.length capg2_]
abbrev api_Site.e0 (x:api_Site):Bool:=((x.Name==ByteArray.empty)&&(((x.X:Int)==0)&&(((x.Y:Int)==0)&&(((x.Z:Int)==0)&&(((x.Rose:Int)==0)&&(((x.Gates:Int)==0)&&(((x.Step:Int)==0)&&(((x.Width:Int)==0)&&true))))))))
abbrev api_Echo.e0 (x:api_Echo):Bool:=(((x.Kind:Int)==0)&&(((x.Power.Lo:Int)==0)&&(((x.Power.Hi:Int)==0)&&(((x.Steps.1.Lo:Int)==0)&&(((x.Steps.1.Hi:Int)==0)&&(((x.Steps.2.Lo:Int)==0)&&(((x.Steps.2.Hi:Int)==0)&&(((x.Spread:Int)==0)&&(((x.Ratio.Lo:Int)==0)&&(((x.Ratio.Hi:Int)==0)&&(((x.Match.Lo:Int)==0)&&(((x.Match.Hi:Int)==0)&&(((x.Turn.Lo:Int)==0)&&(((x.Turn.Hi:Int)==0)&&true))))))))))))))
abbrev sift_reader.e0 (x:sift_reader):Bool:=((x.s==ByteArray.empty)&&(((x.at_:Int)==0)&&((x.token==ByteArray.empty)&&(((x.from_:Int)==0)&&true))))
abbrev z83:Array Value:=#[.int .i64 0,.int .i64 0,.int .i64 0,.int .i64 0,.int .i64 0,.int .i64 0,.int .i64 0,.int .i64 0,.int .i64 0,.int .i64 0,.int .i64 0,.int .i64 0,.int .i64 0,.int .i64 0]
abbrev z50:Array Value:=#[.string ByteArray.empty,.int .i64 0,.int .i64 0,.int .i64 0,.int .i64 0,.int .i64 0,.int .i64 0,.int .i64 0,.int .i64 0,.int .i64 0,.slice none 0 0]
abbrev A2e:Array Value:=#[.string ByteArray.empty,.int .i64 0,.int .i64 0,.int .i64 0,.int .i64 0,.slice none 0 0]
abbrev z88:Array Value:=#[.int .i64 0,.int .i64 0,.int .i64 0,.int .i64 0,.slice none 0 0]
inductive Rp88:Frz→List Value→ref04_Node→Prop
  | mk_ {μ:Frz} {x:ref04_Node} (ad1:Option Addr) (cap2:Nat) (css3:List (List Value)):ArrM μ 5 (fN 5) ad1 cap2 css3→All2 (Rp88 μ) css3 x.Args→Rp88 μ [.int .i64 x.Op,.int .i64 x.Value_,.int .i64 x.Rays,.int .i64 x.Gates,.slice ad1 x.Args.length cap2] x
theorem Rp88.out {μ:Frz} {cs:List Value} {x:ref04_Node} (h:Rp88 μ cs x):∃(ad1:Option Addr) (cap2:Nat) (css3:List (List Value)),cs=[.int .i64 x.Op,.int .i64 x.Value_,.int .i64 x.Rays,.int .i64 x.Gates,.slice ad1 x.Args.length cap2]∧ArrQ μ 5 Rp88 ad1 cap2 css3 x.Args:=by
  cases h with
  | mk_ a b c h1 h2=>exact ⟨a,b,c,rfl,h1,h2⟩
theorem Rp88.in_ {μ:Frz} {cs:List Value} {x:ref04_Node} (h:∃(ad1:Option Addr) (cap2:Nat) (css3:List (List Value)),cs=[.int .i64 x.Op,.int .i64 x.Value_,.int .i64 x.Rays,.int .i64 x.Gates,.slice ad1 x.Args.length cap2]∧ArrQ μ 5 Rp88 ad1 cap2 css3 x.Args):Rp88 μ cs x:=by
  obtain ⟨a,b,c,rfl,h1,h2⟩:=h;exact .mk_ a b c h1 h2
theorem Rp88.mono_ {μ ν:Frz} (hle:μ.le ν):∀(x:ref04_Node) (cs:List Value),Rp88 μ cs x→Rp88 ν cs x
  | x,cs,h=>by
    obtain ⟨a,b,c,rfl,h1,h2⟩:=h.out;refine .mk_ a b c (h1.mono hle) ?_;have go:∀(m:List ref04_Node) (cs:List (List Value)),(∀y∈m,∀c,Rp88 μ c y→Rp88 ν c y)→All2 (Rp88 μ) cs m→All2 (Rp88 ν) cs m:=by
      intro m
      induction m with
      | nil=>intro cs _ h;cases h;exact .nil
      | cons y m ih=>intro cs hy h;cases h with|cons h3 h4=>exact .cons (hy y (by simp) _ h3) (ih _ (fun z hz=>hy z (by simp [hz])) h4)
    exact go _ c (fun y hy c=>Rp88.mono_ hle y c) h2
termination_by x=>SizeOf.sizeOf x
decreasing_by
  have h9:=List.sizeOf_lt_of_mem hy
  cases x
  simp +arith at *;omega
theorem Rp88.mono:Rel.Mono Rp88:=fun _ _ cs x hle h=>Rp88.mono_ hle x cs h
theorem Rp88.one:Rel.One 5 Rp88:=by
  intro μ cs x h;obtain ⟨a,b,c,rfl,h1⟩:=h.out
  all_goals rfl
def Rp101:Rel ref04_Rule:=fun μ cs x=>∃(ad1:Option Addr) (cap2:Nat) (css3:List (List Value)),cs=[.string x.Name,.int .i64 x.When.Op,.int .i64 x.When.Value_,.int .i64 x.When.Rays,.int .i64 x.When.Gates,.slice ad1 x.When.Args.length cap2]∧ArrQ μ 5 Rp88 ad1 cap2 css3 x.When.Args
theorem Rp101.mono:Rel.Mono Rp101:=by
  intro μ ν cs x hle h;obtain ⟨ad1,cap2,css3,rfl,f0⟩:=h;exact ⟨ad1,cap2,css3,rfl,f0.mono Rp88.mono hle⟩
theorem Rp101.one:Rel.One 6 Rp101:=by
  intro μ cs x h;obtain ⟨ad1,cap2,css3,rfl,f0⟩:=h
  all_goals rfl
inductive Rp63:Frz→List Value→sift_Node→Prop
  | mk_ {μ:Frz} {x:sift_Node} (ad1:Option Addr) (cap2:Nat) (css3:List (List Value)):ArrM μ 5 (fN 5) ad1 cap2 css3→All2 (Rp63 μ) css3 x.Args→Rp63 μ [.int .i64 x.Op,.int .i64 x.Value_,.int .i64 x.Rays,.int .i64 x.Gates,.slice ad1 x.Args.length cap2] x
theorem Rp63.out {μ:Frz} {cs:List Value} {x:sift_Node} (h:Rp63 μ cs x):∃(ad1:Option Addr) (cap2:Nat) (css3:List (List Value)),cs=[.int .i64 x.Op,.int .i64 x.Value_,.int .i64 x.Rays,.int .i64 x.Gates,.slice ad1 x.Args.length cap2]∧ArrQ μ 5 Rp63 ad1 cap2 css3 x.Args:=by
  cases h with
  | mk_ a b c h1 h2=>exact ⟨a,b,c,rfl,h1,h2⟩
theorem Rp63.in_ {μ:Frz} {cs:List Value} {x:sift_Node} (h:∃(ad1:Option Addr) (cap2:Nat) (css3:List (List Value)),cs=[.int .i64 x.Op,.int .i64 x.Value_,.int .i64 x.Rays,.int .i64 x.Gates,.slice ad1 x.Args.length cap2]∧ArrQ μ 5 Rp63 ad1 cap2 css3 x.Args):Rp63 μ cs x:=by
  obtain ⟨a,b,c,rfl,h1,h2⟩:=h;exact .mk_ a b c h1 h2
theorem Rp63.mono_ {μ ν:Frz} (hle:μ.le ν):∀(x:sift_Node) (cs:List Value),Rp63 μ cs x→Rp63 ν cs x
  | x,cs,h=>by
    obtain ⟨a,b,c,rfl,h1,h2⟩:=h.out;refine .mk_ a b c (h1.mono hle) ?_;have go:∀(m:List sift_Node) (cs:List (List Value)),(∀y∈m,∀c,Rp63 μ c y→Rp63 ν c y)→All2 (Rp63 μ) cs m→All2 (Rp63 ν) cs m:=by
      intro m
      induction m with
      | nil=>intro cs _ h;cases h;exact .nil
      | cons y m ih=>intro cs hy h;cases h with|cons h3 h4=>exact .cons (hy y (by simp) _ h3) (ih _ (fun z hz=>hy z (by simp [hz])) h4)
    exact go _ c (fun y hy c=>Rp63.mono_ hle y c) h2
termination_by x=>SizeOf.sizeOf x
decreasing_by
  have h9:=List.sizeOf_lt_of_mem hy
  cases x
  simp +arith at *;omega
theorem Rp63.mono:Rel.Mono Rp63:=fun _ _ cs x hle h=>Rp63.mono_ hle x cs h
theorem Rp63.one:Rel.One 5 Rp63:=by
  intro μ cs x h;obtain ⟨a,b,c,rfl,h1⟩:=h.out
  all_goals rfl
def Rp65:Rel sift_Rule:=fun μ cs x=>∃(ad1:Option Addr) (cap2:Nat) (css3:List (List Value)),cs=[.string x.Name,.int .i64 x.When.Op,.int .i64 x.When.Value_,.int .i64 x.When.Rays,.int .i64 x.When.Gates,.slice ad1 x.When.Args.length cap2]∧ArrQ μ 5 Rp63 ad1 cap2 css3 x.When.Args
theorem Rp65.mono:Rel.Mono Rp65:=by
  intro μ ν cs x hle h;obtain ⟨ad1,cap2,css3,rfl,f0⟩:=h;exact ⟨ad1,cap2,css3,rfl,f0.mono Rp63.mono hle⟩
theorem Rp65.one:Rel.One 6 Rp65:=by
  intro μ cs x h;obtain ⟨ad1,cap2,css3,rfl,f0⟩:=h
  all_goals rfl
def Rp78:Rel (List api_Echo):=fun μ cs x=>∃(ad1:Option Addr) (cap2:Nat),cs=[.slice ad1 x.length cap2]∧ArrM μ 14 api_Echo.cells ad1 cap2 x
theorem Rp78.mono:Rel.Mono Rp78:=by
  intro μ ν cs x hle h;obtain ⟨ad1,cap2,rfl,f0⟩:=h;exact ⟨ad1,cap2,rfl,f0.mono hle⟩
def Rp183:Rel sift_scan:=fun μ cs x=>∃(ad1:Option Addr) (cap2:Nat) (css3:List (List Value)) (m4:Nat) (m5:Nat),cs=[.string x.s.Site.Name,.int .i64 x.s.Site.X,.int .i64 x.s.Site.Y,.int .i64 x.s.Site.Z,.int .i64 x.s.Site.Rose,.int .i64 x.s.Site.Gates,.int .i64 x.s.Site.Step,.int .i64 x.s.Site.Width,.int .i64 x.s.Tilt,.int .i64 x.s.Time,.slice ad1 x.s.Rays.length cap2,.int .i64 x.n,.map (some m4),.map (some m5)]∧ArrQ μ 1 Rp78 ad1 cap2 css3 x.s.Rays
theorem Rp183.mono:Rel.Mono Rp183:=by
  intro μ ν cs x hle h;obtain ⟨ad1,cap2,css3,m4,m5,rfl,f0⟩:=h;exact ⟨ad1,cap2,css3,m4,m5,rfl,f0.mono Rp78.mono hle⟩
def Rp57:Rel (List Int):=fun μ cs x=>∃(ad1:Option Addr) (cap2:Nat),cs=[.slice ad1 x.length cap2]∧ArrM μ 1 fI ad1 cap2 x
theorem Rp57.mono:Rel.Mono Rp57:=by
  intro μ ν cs x hle h;obtain ⟨ad1,cap2,rfl,f0⟩:=h;exact ⟨ad1,cap2,rfl,f0.mono hle⟩
theorem Rp57.one:Rel.One 1 Rp57:=by
  intro μ cs x h;obtain ⟨ad1,cap2,rfl,f0⟩:=h
  all_goals rfl
def Rp59:Rel sift_Verdict:=fun μ cs x=>∃(ad1:Option Addr) (cap2:Nat),cs=[.int .i64 x.Rule,.slice ad1 x.Doubts.length cap2]∧ArrM μ 1 fI ad1 cap2 x.Doubts
theorem Rp59.mono:Rel.Mono Rp59:=by
  intro μ ν cs x hle h;obtain ⟨ad1,cap2,rfl,f0⟩:=h;exact ⟨ad1,cap2,rfl,f0.mono hle⟩
theorem Rp59.one:Rel.One 2 Rp59:=by
  intro μ cs x h;obtain ⟨ad1,cap2,rfl,f0⟩:=h
  all_goals rfl
def Rp56:Rel (List sift_Verdict):=fun μ cs x=>∃(ad1:Option Addr) (cap2:Nat) (css3:List (List Value)),cs=[.slice ad1 x.length cap2]∧ArrQ μ 2 Rp59 ad1 cap2 css3 x
theorem Rp56.mono:Rel.Mono Rp56:=by
  intro μ ν cs x hle h;obtain ⟨ad1,cap2,css3,rfl,f0⟩:=h;exact ⟨ad1,cap2,css3,rfl,f0.mono Rp59.mono hle⟩
def G2 (p0:ByteArray):Bool:=A3c p0
def Bn (p0:ByteArray) (p1:Int):Int:=Lib.indexByte p0.data.toList p1.toNat.toUInt8
def B0 (F:Nat) (p0 p1:ByteArray):Option Bool:=match p1.data.toList with|[c]=>some (decide (0≤Lib.indexByte p0.data.toList c))|_=>none
def strconv_Itoa (F:Nat) (p0:Int):Option ByteArray:=if -9223372036854775808≤p0∧p0≤9223372036854775807 then some ⟨(Lib.itoa p0).toArray⟩ else none
def Vm (F:Nat) (p0:Bool×List Int):Option (Bool×List Int):=some (true,p0.2)
def Qx (F:Nat) (p0:Bool×List Int):Option ByteArray:=some (bst p0.2)
def Mu (a0:Int):Option Int :=
  some a0
def K0 (self_:(ref04_Node→Int→Option Int)) (p0:ref04_Node) (p1:Int) (k2:(Int→Int→Option Int)) (a0:Int) (a1:Int):Option Int :=
  bif (bif (decide (a1<((p0.Args.length:Nat):Int))) then (decide (a0≤p1)) else false) then ((getI p0.Args a1).bind fun a2 =>
  (ck (p1-a0)).bind fun a3 =>
  (self_ a2 a3).bind fun a6 =>
  (ck (a0+a6)).bind fun a4 =>
  (ck (a1+1)).bind fun a5 =>
  k2 a4 a5) else (Mu a0)
def Gp (self_:(ref04_Node→Int→Option Int)) (p0:ref04_Node) (p1:Int):Nat→Int→Int→Option Int
  | 0,_,_=>none
  | n+1,a0,a1=>K0 self_ p0 p1 (Gp self_ p0 p1 n) a0 a1
def R5 (F:Nat) (self_:ref04_Node→Int→Option Int) (p0:ref04_Node) (p1:Int):Option Int :=
  Gp self_ p0 p1 F 1 0
def Dm:Nat→ref04_Node→Int→Option Int
  | 0,_,_=>none
  | F+1,p0,p1=>R5 F (Dm F) p0 p1
def Ps (p0:(List ref04_Rule)) (a0:Int):Option Bool :=
  some (bif (decide (a0≤400)) then (decide (((p0.length:Nat):Int)≤40)) else false)
def Mh (F:Nat) (p0:(List ref04_Rule)) (k2:(Int→Int→Option Bool)) (a0:Int) (a1:Int):Option Bool :=
  bif (bif (decide (a1<((p0.length:Nat):Int))) then (decide (a0≤400)) else false) then ((getI p0 a1).bind fun a2 =>
  (Dm F a2.When 400).bind fun a5 =>
  (ck (a0+a5)).bind fun a3 =>
  (ck (a1+1)).bind fun a4 =>
  k2 a3 a4) else (Ps p0 a0)
def Ko (F:Nat) (p0:(List ref04_Rule)):Nat→Int→Int→Option Bool
  | 0,_,_=>none
  | n+1,a0,a1=>Mh F p0 (Ko F p0 n) a0 a1
def Tw (F:Nat) (p0:(List ref04_Rule)):Option Bool :=
  Ko F p0 F 0 0
def Hw (a0:Int):Option Int :=
  some a0
def Dn (self_:(sift_Node→Int→Option Int)) (p0:sift_Node) (p1:Int) (k2:(Int→Int→Option Int)) (a1:Int) (a0:Int):Option Int :=
  bif (decide (a1<((p0.Args.length:Nat):Int))) then ((getI p0.Args a1).bind fun a2 =>
  bif (decide (a0>p1)) then (Hw a0) else ((ck (p1-a0)).bind fun a3 =>
  (self_ a2 a3).bind fun a6 =>
  (ck (a0+a6)).bind fun a4 =>
  (ck (a1+1)).bind fun a5 =>
  k2 a5 a4)) else (Hw a0)
def By (self_:(sift_Node→Int→Option Int)) (p0:sift_Node) (p1:Int):Nat→Int→Int→Option Int
  | 0,_,_=>none
  | n+1,a0,a1=>Dn self_ p0 p1 (By self_ p0 p1 n) a0 a1
def Qk (F:Nat) (self_:sift_Node→Int→Option Int) (p0:sift_Node) (p1:Int):Option Int :=
  By self_ p0 p1 F 0 1
def Cc:Nat→sift_Node→Int→Option Int
  | 0,_,_=>none
  | F+1,p0,p1=>Qk F (Cc F) p0 p1
def beam_Name (F:Nat) (p0:ByteArray):Option Bool :=
  (gd (((bif (!(sEq p0 (⟨#[]⟩:ByteArray))) then (decide (((p0.size:Nat):Int)≤12)) else false)==true&&true)) (Qn p0 (0:Int)) default).bind fun u1 =>
  (gd (((bif (bif (!(sEq p0 (⟨#[]⟩:ByteArray))) then (decide (((p0.size:Nat):Int)≤12)) else false) then (decide (u1≥97)) else false)==true&&true)) (Qn p0 (0:Int)) default).bind fun u2 =>
  some (bif (bif (bif (bif (!(sEq p0 (⟨#[]⟩:ByteArray))) then (decide (((p0.size:Nat):Int)≤12)) else false) then (decide (u1≥97)) else false) then (decide (u2≤122)) else false) then (!(G2 p0)) else false)
def B8:(P5 ByteArray 28) :=
  (⟨[(⟨#[]⟩:ByteArray),(⟨#[116,114,117,101]⟩:ByteArray),(⟨#[102,97,108,115,101]⟩:ByteArray),(⟨#[110,111,116]⟩:ByteArray),(⟨#[97,110,100]⟩:ByteArray),(⟨#[111,114]⟩:ByteArray),(⟨#[115,111,109,101]⟩:ByteArray),(⟨#[97,108,108]⟩:ByteArray),(⟨#[60]⟩:ByteArray),(⟨#[60,61]⟩:ByteArray),(⟨#[62]⟩:ByteArray),(⟨#[62,61]⟩:ByteArray),(⟨#[61]⟩:ByteArray),(⟨#[33,61]⟩:ByteArray),(⟨#[]⟩:ByteArray),(⟨#[112,111,119,101,114]⟩:ByteArray),(⟨#[114,97,116,105,111]⟩:ByteArray),(⟨#[109,97,116,99,104]⟩:ByteArray),(⟨#[115,112,114,101,97,100]⟩:ByteArray),(⟨#[116,117,114,110]⟩:ByteArray),(⟨#[115,116,101,112]⟩:ByteArray),(⟨#[107,105,110,100]⟩:ByteArray),(⟨#[114,97,121]⟩:ByteArray),(⟨#[103,97,116,101]⟩:ByteArray),(⟨#[116,105,108,116]⟩:ByteArray),(⟨#[99,111,117,110,116]⟩:ByteArray),(⟨#[43]⟩:ByteArray),(⟨#[45]⟩:ByteArray)],rfl⟩:P5 ByteArray 28)
def E5:Option Int :=
  some (-1)
def Ca (p0:(List ByteArray)) (p1:ByteArray) (k2:(Int→Option Int)) (a0:Int):Option Int :=
  bif (decide (a0<((p0.length:Nat):Int))) then ((getI p0 a0).bind fun a1 =>
  bif (sEq p1 a1) then (some a0) else ((ck (a0+1)).bind fun a2 =>
  k2 a2)) else (E5)
def Bp (p0:(List ByteArray)) (p1:ByteArray):Nat→Int→Option Int
  | 0,_=>none
  | n+1,a0=>Ca p0 p1 (Bp p0 p1 n) a0
def Dj (F:Nat) (p0:(List ByteArray)) (p1:ByteArray):Option Int :=
  Bp p0 p1 F 0
def Kx (F:Nat) (p0:ByteArray) (p1:Int) (p2:Int):Option Int :=
  (ck (p2+1)).bind fun x2 =>
  (T2 B8.1 p1 x2).bind fun l3 =>
  (Dj F l3 p0).bind fun y4 =>
  bif (bif (decide (y4≥0)) then (!(sEq p0 (⟨#[]⟩:ByteArray))) else false) then ((ck (p1+y4)).bind fun x5 =>
  some x5) else (some 0)
def sift_word (F:Nat) (p0:ByteArray):Option Bool :=
  (Kx F p0 1 7).bind fun y1 =>
  (gd (((decide (y1>0))==false&&true)) (Kx F p0 15 25) default).bind fun y2 =>
  some (bif (decide (y1>0)) then true else (decide (y2>0)))
def Kv (p0:sift_Rule) (c0_:sift_Rule):Bool :=
  sEq p0.Name c0_.Name
def My (a0:Int):Option Int :=
  (ck (a0+1)).bind fun a1 =>
  some a1
def G0 (self_:(sift_Node→Option Int)) (p0:sift_Node) (k2:(Int→Int→Option Int)) (a0:Int) (a1:Int):Option Int :=
  bif (decide (a1<((p0.Args.length:Nat):Int))) then ((getI p0.Args a1).bind fun a3 =>
  (self_ a3).bind fun a2 =>
  (ck (a1+1)).bind fun a4 =>
  k2 (if a2>a0 then a2 else a0) a4) else (My a0)
def D0 (self_:(sift_Node→Option Int)) (p0:sift_Node):Nat→Int→Int→Option Int
  | 0,_,_=>none
  | n+1,a0,a1=>G0 self_ p0 (D0 self_ p0 n) a0 a1
def Tk (F:Nat) (self_:sift_Node→Option Int) (p0:sift_Node):Option Int :=
  D0 self_ p0 F 0 0
def Dk:Nat→sift_Node→Option Int
  | 0,_=>none
  | F+1,p0=>Tk F (Dk F) p0
def sift_isCondition (p0:sift_Node):Bool :=
  bif (decide (p0.Op≥1)) then (decide (p0.Op≤13)) else false
def sift_isValue (p0:sift_Node):Bool :=
  bif (decide (p0.Op≥14)) then (decide (p0.Op≤27)) else false
def Kf (p0:sift_Node):Option Bool :=
  bif (decide (p0.Op<26)) then (some true) else ((getI p0.Args 1).bind fun a0 =>
  some (decide (a0.Op<26)))
def C4 (self_:(sift_Node→Option Bool)) (p0:sift_Node) (k2:(Int→Option Bool)) (a1:Int):Option Bool :=
  bif (decide (a1<((p0.Args.length:Nat):Int))) then ((getI p0.Args a1).bind fun a0 =>
  (gd (((!(sift_isCondition a0))==false&&true)) (self_ a0) default).bind fun a3 =>
  bif (bif (!(sift_isCondition a0)) then true else (!a3)) then (some false) else ((ck (a1+1)).bind fun a2 =>
  k2 a2)) else (Kf p0)
def Gs (self_:(sift_Node→Option Bool)) (p0:sift_Node):Nat→Int→Option Bool
  | 0,_=>none
  | n+1,a0=>C4 self_ p0 (Gs self_ p0 n) a0
def Kg (p0:sift_Node):Option Bool :=
  bif (decide (p0.Op<26)) then (some true) else ((getI p0.Args 1).bind fun a0 =>
  some (decide (a0.Op<26)))
def C5 (self_:(sift_Node→Option Bool)) (p0:sift_Node) (k4:(Int→Option Bool)) (a1:Int):Option Bool :=
  bif (decide (a1<((p0.Args.length:Nat):Int))) then ((getI p0.Args a1).bind fun a0 =>
  (gd (((!(sift_isCondition a0))==false&&true)) (self_ a0) default).bind fun a3 =>
  bif (bif (!(sift_isCondition a0)) then true else (!a3)) then (some false) else ((ck (a1+1)).bind fun a2 =>
  k4 a2)) else (Kg p0)
def Gt (self_:(sift_Node→Option Bool)) (p0:sift_Node):Nat→Int→Option Bool
  | 0,_=>none
  | n+1,a0=>C5 self_ p0 (Gt self_ p0 n) a0
def Kh (p0:sift_Node):Option Bool :=
  bif (decide (p0.Op<26)) then (some true) else ((getI p0.Args 1).bind fun a0 =>
  some (decide (a0.Op<26)))
def C6 (self_:(sift_Node→Option Bool)) (p0:sift_Node) (k6:(Int→Option Bool)) (a1:Int):Option Bool :=
  bif (decide (a1<((p0.Args.length:Nat):Int))) then ((getI p0.Args a1).bind fun a0 =>
  (gd (((!(sift_isCondition a0))==false&&true)) (self_ a0) default).bind fun a3 =>
  bif (bif (!(sift_isCondition a0)) then true else (!a3)) then (some false) else ((ck (a1+1)).bind fun a2 =>
  k6 a2)) else (Kh p0)
def Gu (self_:(sift_Node→Option Bool)) (p0:sift_Node):Nat→Int→Option Bool
  | 0,_=>none
  | n+1,a0=>C6 self_ p0 (Gu self_ p0 n) a0
def Ki (p0:sift_Node):Option Bool :=
  bif (decide (p0.Op<26)) then (some true) else ((getI p0.Args 1).bind fun a0 =>
  some (decide (a0.Op<26)))
def C7 (self_:(sift_Node→Option Bool)) (p0:sift_Node) (k8:(Int→Option Bool)) (a1:Int):Option Bool :=
  bif (decide (a1<((p0.Args.length:Nat):Int))) then ((getI p0.Args a1).bind fun a0 =>
  (gd (((!(sift_isValue a0))==false&&true)) (self_ a0) default).bind fun a3 =>
  bif (bif (!(sift_isValue a0)) then true else (!a3)) then (some false) else ((ck (a1+1)).bind fun a2 =>
  k8 a2)) else (Ki p0)
def Gv (self_:(sift_Node→Option Bool)) (p0:sift_Node):Nat→Int→Option Bool
  | 0,_=>none
  | n+1,a0=>C7 self_ p0 (Gv self_ p0 n) a0
def N3 (p0:sift_Node):Option Bool :=
  bif (decide (p0.Op<26)) then (some true) else ((getI p0.Args 1).bind fun a0 =>
  some (decide (a0.Op<26)))
def D1 (self_:(sift_Node→Option Bool)) (p0:sift_Node) (a2:(Int→Option Bool)) (a1:Int):Option Bool :=
  bif (decide (a1<((p0.Args.length:Nat):Int))) then ((getI p0.Args a1).bind fun a0 =>
  (gd (((!(sift_isCondition a0))==false&&true)) (self_ a0) default).bind fun a4 =>
  bif (bif (!(sift_isCondition a0)) then true else (!a4)) then (some false) else ((ck (a1+1)).bind fun a3 =>
  a2 a3)) else (N3 p0)
def J0 (self_:(sift_Node→Option Bool)) (p0:sift_Node):Nat→Int→Option Bool
  | 0,_=>none
  | n+1,a0=>D1 self_ p0 (J0 self_ p0 n) a0
def Lw (p0:sift_Node):Option Bool :=
  bif (decide (p0.Op<26)) then (some true) else ((getI p0.Args 1).bind fun a0 =>
  some (decide (a0.Op<26)))
def D2 (self_:(sift_Node→Option Bool)) (p0:sift_Node) (a2:(Int→Option Bool)) (a1:Int):Option Bool :=
  bif (decide (a1<((p0.Args.length:Nat):Int))) then ((getI p0.Args a1).bind fun a0 =>
  (gd (((!(sift_isCondition a0))==false&&true)) (self_ a0) default).bind fun a4 =>
  bif (bif (!(sift_isCondition a0)) then true else (!a4)) then (some false) else ((ck (a1+1)).bind fun a3 =>
  a2 a3)) else (Lw p0)
def J1 (self_:(sift_Node→Option Bool)) (p0:sift_Node):Nat→Int→Option Bool
  | 0,_=>none
  | n+1,a0=>D2 self_ p0 (J1 self_ p0 n) a0
def Cy (F:Nat) (self_:sift_Node→Option Bool) (p0:sift_Node):Option Bool :=
  bif (p0.Op==3) then (bif (bif (bif (bif (((p0.Args.length:Nat):Int) != 1) then true else (decide ((if p0.Gates<if p0.Rays<p0.Value_ then p0.Rays else p0.Value_ then p0.Gates else if p0.Rays<p0.Value_ then p0.Rays else p0.Value_)<0))) then true else (decide (p0.Value_>0))) then true else (decide ((if p0.Gates>p0.Rays then p0.Gates else p0.Rays)>0))) then (some false) else (Gs self_ p0 F 0)) else (bif (bif (p0.Op==4) then true else (p0.Op==5)) then (bif (bif (bif (bif (((p0.Args.length:Nat):Int) != 2) then true else (decide ((if p0.Gates<if p0.Rays<p0.Value_ then p0.Rays else p0.Value_ then p0.Gates else if p0.Rays<p0.Value_ then p0.Rays else p0.Value_)<0))) then true else (decide (p0.Value_>0))) then true else (decide ((if p0.Gates>p0.Rays then p0.Gates else p0.Rays)>0))) then (some false) else (Gt self_ p0 F 0)) else (bif (bif (bif (p0.Op==6) then true else (p0.Op==7)) then true else (p0.Op==25)) then (bif (bif (bif (bif (((p0.Args.length:Nat):Int) != 1) then true else (decide ((if p0.Gates<if p0.Rays<p0.Value_ then p0.Rays else p0.Value_ then p0.Gates else if p0.Rays<p0.Value_ then p0.Rays else p0.Value_)<0))) then true else (decide (p0.Value_>0))) then true else (decide ((if p0.Gates>p0.Rays then p0.Gates else p0.Rays)>3))) then (some false) else (Gu self_ p0 F 0)) else (bif (bif (bif (bif (decide (p0.Op≥8)) then (decide (p0.Op≤13)) else false) then true else (p0.Op==26)) then true else (p0.Op==27)) then (bif (bif (bif (bif (((p0.Args.length:Nat):Int) != 2) then true else (decide ((if p0.Gates<if p0.Rays<p0.Value_ then p0.Rays else p0.Value_ then p0.Gates else if p0.Rays<p0.Value_ then p0.Rays else p0.Value_)<0))) then true else (decide (p0.Value_>0))) then true else (decide ((if p0.Gates>p0.Rays then p0.Gates else p0.Rays)>0))) then (some false) else (Gv self_ p0 F 0)) else (bif (p0.Op==14) then (bif (bif (bif (bif (((p0.Args.length:Nat):Int) != 0) then true else (decide ((if p0.Gates<if p0.Rays<p0.Value_ then p0.Rays else p0.Value_ then p0.Gates else if p0.Rays<p0.Value_ then p0.Rays else p0.Value_)<0))) then true else (decide (p0.Value_>1000000000))) then true else (decide ((if p0.Gates>p0.Rays then p0.Gates else p0.Rays)>0))) then (some false) else (J0 self_ p0 F 0)) else (bif (bif (!(sift_isCondition p0)) then (!(sift_isValue p0)) else false) then (some false) else (bif (bif (bif (bif (((p0.Args.length:Nat):Int) != 0) then true else (decide ((if p0.Gates<if p0.Rays<p0.Value_ then p0.Rays else p0.Value_ then p0.Gates else if p0.Rays<p0.Value_ then p0.Rays else p0.Value_)<0))) then true else (decide (p0.Value_>0))) then true else (decide ((if p0.Gates>p0.Rays then p0.Gates else p0.Rays)>0))) then (some false) else (J1 self_ p0 F 0)))))))
def Bf:Nat→sift_Node→Option Bool
  | 0,_=>none
  | F+1,p0=>Cy F (Bf F) p0
def C8:Option Int :=
  some (-1)
def Ar (p0:(List sift_Rule)) (c1_0_:sift_Rule) (k2:(Int→Option Int)) (a0:Int):Option Int :=
  bif (decide (a0<((p0.length:Nat):Int))) then ((getI p0 a0).bind fun a1 =>
  bif (Kv a1 c1_0_) then (some a0) else ((ck (a0+1)).bind fun a2 =>
  k2 a2)) else (C8)
def Ap (p0:(List sift_Rule)) (c1_0_:sift_Rule):Nat→Int→Option Int
  | 0,_=>none
  | n+1,a0=>Ar p0 c1_0_ (Ap p0 c1_0_ n) a0
def Bd (F:Nat) (p0:(List sift_Rule)) (c1_0_:sift_Rule):Option Int :=
  Ap p0 c1_0_ F 0
def Au (F:Nat) (p0:(List sift_Rule)) (c1_0_:sift_Rule):Option Bool :=
  (Bd F p0 c1_0_).bind fun a0 =>
  some (decide (a0≥0))
def R8:Option Int :=
  some 0
def G4 (F:Nat) (p0:(List sift_Rule)) (k3:(Int→Option Int)) (a1:Int):Option Int :=
  bif (decide (a1<((p0.length:Nat):Int))) then ((getI p0 a1).bind fun a0 =>
  (beam_Name F a0.Name).bind fun a2 =>
  (gd (((!a2)==false&&true)) (sift_word F a0.Name) default).bind fun a5 =>
  bif (bif (!a2) then true else a5) then (some 10) else ((T2 p0 (0:Int) a1).bind fun a3 =>
  (Au F a3 a0).bind fun a6 =>
  bif a6 then (some 5) else ((Dk F a0.When).bind fun a7 =>
  bif (decide (a7>12)) then (some 24) else ((gd (((!(sift_isCondition a0.When))==false&&true)) (Bf F a0.When) default).bind fun a8 =>
  bif (bif (!(sift_isCondition a0.When)) then true else (!a8)) then (some 2) else ((ck (a1+1)).bind fun a4 =>
  k3 a4))))) else (R8)
def J6 (F:Nat) (p0:(List sift_Rule)):Nat→Int→Option Int
  | 0,_=>none
  | n+1,a0=>G4 F p0 (J6 F p0 n) a0
def R7 (F:Nat) (p0:(List sift_Rule)):Option Int :=
  J6 F p0 F 0
def G5 (F:Nat) (p0:(List sift_Rule)) (k4:(Int→Int→Option Int)) (a0:Int) (a3:Int):Option Int :=
  bif (decide (a0<((p0.length:Nat):Int))) then ((getI p0 a0).bind fun a2 =>
  (Cc F a2.When 300).bind fun a5 =>
  (ck (a3+a5)).bind fun a1 =>
  bif (decide (a1>300)) then (some 9) else ((ck (a0+1)).bind fun a4 =>
  k4 a4 a1)) else (R7 F p0)
def J7 (F:Nat) (p0:(List sift_Rule)):Nat→Int→Int→Option Int
  | 0,_,_=>none
  | n+1,a0,a1=>G5 F p0 (J7 F p0 n) a0 a1
def Ec (F:Nat) (p0:(List sift_Rule)):Option Int :=
  bif (decide (((p0.length:Nat):Int)>32)) then (some 9) else (J7 F p0 F 0 0)
def Ch (F:Nat) (p0:(Bool×List Int)) (p1:ByteArray):Option (Int×Unit×(Bool×List Int)) :=
  (Vm F (p0.1,p0.2)).bind fun y3 =>
  (apd 1 y3.2 (sby p1)).bind fun l9 =>
  some (((p1.size:Nat):Int),(),(y3.1,l9))
def F5 (F:Nat) (self_:sift_Node→Option ByteArray) (p0:sift_Node):Option ByteArray :=
  (Wu B8 p0.Op).bind fun u6 =>
  bif (p0.Op==14) then ((strconv_Itoa F p0.Value_).bind fun y7 =>
  some y7) else (bif (p0.Op==3) then ((F6 u6 (⟨#[32]⟩:ByteArray)).bind fun s8 =>
  (getI p0.Args 0).bind fun u9 =>
  (self_ u9).bind fun aG =>
  (F6 s8 aG).bind fun a1 =>
  some a1) else (bif (((p0.Args.length:Nat):Int)==1) then ((F6 u6 (⟨#[32]⟩:ByteArray)).bind fun a2 =>
  (strconv_Itoa F p0.Rays).bind fun aH =>
  (F6 a2 aH).bind fun a3 =>
  (F6 a3 (⟨#[32]⟩:ByteArray)).bind fun a4 =>
  (strconv_Itoa F p0.Gates).bind fun aI =>
  (F6 a4 aI).bind fun a5 =>
  (F6 a5 (⟨#[32]⟩:ByteArray)).bind fun a6 =>
  (getI p0.Args 0).bind fun aD =>
  (self_ aD).bind fun aJ =>
  (F6 a6 aJ).bind fun a7 =>
  some a7) else (bif (((p0.Args.length:Nat):Int)==0) then (some u6) else ((getI p0.Args 0).bind fun aE =>
  (self_ aE).bind fun aK =>
  (F6 aK (⟨#[32]⟩:ByteArray)).bind fun a8 =>
  (F6 a8 u6).bind fun a9 =>
  (F6 a9 (⟨#[32]⟩:ByteArray)).bind fun aA =>
  (getI p0.Args 1).bind fun aF =>
  (self_ aF).bind fun aL =>
  (F6 aA aL).bind fun a0 =>
  bif (decide (p0.Op<14)) then ((F6 (⟨#[40]⟩:ByteArray) a0).bind fun aB =>
  (F6 aB (⟨#[41]⟩:ByteArray)).bind fun aC =>
  some aC) else (some a0)))))
def Gw:Nat→sift_Node→Option ByteArray
  | 0,_=>none
  | F+1,p0=>F5 F (Gw F) p0
def Fv (F:Nat) (p0:(Bool×List Int)):Option (Int×(Bool×List Int)) :=
  some (((p0.2.length:Nat):Int),(p0.1,p0.2))
def P4 (F:Nat) (a1:Bool) (a2:(List Int)):Option (ByteArray×Int) :=
  (Fv F (a1,a2)).bind fun a0 =>
  bif (decide (a0.1>65536)) then (some ((⟨#[]⟩:ByteArray),8)) else ((Qx F (a0.2.1,a0.2.2)).bind fun a3 =>
  some (a3,0))
def Ln (F:Nat) (p0:(List sift_Rule)) (k2:(Bool→(List Int)→Int→Option (ByteArray×Int))) (a1:Bool) (a2:(List Int)) (a0:Int):Option (ByteArray×Int) :=
  bif (decide (a0<((p0.length:Nat):Int))) then ((getI p0 a0).bind fun a3 =>
  (F6 a3.Name (⟨#[58,32]⟩:ByteArray)).bind fun a5 =>
  (Gw F a3.When).bind fun a9 =>
  (F6 a5 a9).bind fun a6 =>
  (F6 a6 (⟨#[59,10]⟩:ByteArray)).bind fun a7 =>
  (Ch F (a1,a2) a7).bind fun a4 =>
  (ck (a0+1)).bind fun a8 =>
  k2 a4.2.2.1 a4.2.2.2 a8) else (P4 F a1 a2)
def Lp (F:Nat) (p0:(List sift_Rule)):Nat→Bool→(List Int)→Int→Option (ByteArray×Int)
  | 0,_,_,_=>none
  | n+1,a0,a1,a2=>Ln F p0 (Lp F p0 n) a0 a1 a2
def Hc (F:Nat) (p0:(List sift_Rule)):Option (ByteArray×Int) :=
  (Ec F p0).bind fun y5 =>
  bif (y5 != 0) then (some ((⟨#[]⟩:ByteArray),y5)) else (Lp F p0 F false ([]) 0)
def Qv (p0:sift_Node) (a0:Int) (a1:Int):Option (Int×Int) :=
  (ck (a0+p0.Rays)).bind fun a2 =>
  (ck (a1+p0.Gates)).bind fun a3 =>
  some (a2,a3)
def Kd (self_:(sift_Node→Option (Int×Int))) (p0:sift_Node) (k2:(Int→Int→Int→Option (Int×Int))) (a1:Int) (a2:Int) (a3:Int):Option (Int×Int) :=
  bif (decide (a1<((p0.Args.length:Nat):Int))) then ((getI p0.Args a1).bind fun a4 =>
  (self_ a4).bind fun a0 =>
  (ck (a1+1)).bind fun a5 =>
  k2 a5 (if a0.1>a2 then a0.1 else a2) (if a0.2>a3 then a0.2 else a3)) else (Qv p0 a2 a3)
def Gz (self_:(sift_Node→Option (Int×Int))) (p0:sift_Node):Nat→Int→Int→Int→Option (Int×Int)
  | 0,_,_,_=>none
  | n+1,a0,a1,a2=>Kd self_ p0 (Gz self_ p0 n) a0 a1 a2
def Ul (F:Nat) (self_:sift_Node→Option (Int×Int)) (p0:sift_Node):Option (Int×Int) :=
  Gz self_ p0 F 0 0 0
def Mz:Nat→sift_Node→Option (Int×Int)
  | 0,_=>none
  | F+1,p0=>Ul F (Mz F) p0
def Ri (a0:Int) (a1:Int):Option (Int×Int×Int) :=
  some (a0,a1,0)
def Lq (F:Nat) (p0:(List sift_Rule)) (k2:(Int→Int→Int→Option (Int×Int×Int))) (a1:Int) (a2:Int) (a3:Int):Option (Int×Int×Int) :=
  bif (decide (a1<((p0.length:Nat):Int))) then ((getI p0 a1).bind fun a4 =>
  (Mz F a4.When).bind fun a0 =>
  (ck (a1+1)).bind fun a5 =>
  k2 a5 (if a0.1>a2 then a0.1 else a2) (if a0.2>a3 then a0.2 else a3)) else (Ri a2 a3)
def Lr (F:Nat) (p0:(List sift_Rule)):Nat→Int→Int→Int→Option (Int×Int×Int)
  | 0,_,_,_=>none
  | n+1,a0,a1,a2=>Lq F p0 (Lr F p0 n) a0 a1 a2
def Kb (F:Nat) (p0:(List sift_Rule)):Option (Int×Int×Int) :=
  (Ec F p0).bind fun y5 =>
  bif (y5 != 0) then (some (0,0,y5)) else (Lr F p0 F 0 0 0)
abbrev Ce:=sift_Node→Option sift_Node
abbrev C3:=sift_Node→Option sift_Node
def Mx (a0:(List sift_Node)):Option (List sift_Node) :=
  some a0
def Bb (s68_:Ce) (p0:sift_Node) (k2:(Int→(List sift_Node)→Option (List sift_Node))) (a0:Int) (a1:(List sift_Node)):Option (List sift_Node) :=
  bif (decide (a0<((p0.Args.length:Nat):Int))) then ((getI p0.Args a0).bind fun a3 =>
  (s68_ a3).bind fun a5 =>
  (apd 56 a1 ([a5])).bind fun a2 =>
  (ck (a0+1)).bind fun a4 =>
  k2 a4 a2) else (Mx a1)
def Cs (s68_:Ce) (p0:sift_Node):Nat→Int→(List sift_Node)→Option (List sift_Node)
  | 0,_,_=>none
  | n+1,a1,a0=>Bb s68_ p0 (Cs s68_ p0 n) a1 a0
def Kc (F:Nat) (s68_:Ce) (s102_:C3) (p0:sift_Node):Option (List sift_Node) :=
  Cs s68_ p0 F 0 ([])
def Hs (F:Nat) (s68_:Ce) (s102_:C3) (p0:sift_Node):Option sift_Node :=
  bif (p0.Op==3) then ((getI p0.Args 0).bind fun u8 =>
  bif (decide (u8.Op<8)) then ((getI p0.Args 0).bind fun a0 =>
  (s102_ a0).bind fun a1 =>
  some a1) else ((Kc F s68_ s102_ p0).bind fun a2 =>
  some (sift_Node.mk p0.Op p0.Value_ p0.Rays p0.Gates a2))) else ((Kc F s68_ s102_ p0).bind fun a3 =>
  some (sift_Node.mk p0.Op p0.Value_ p0.Rays p0.Gates a3))
def M8 (a0:(List sift_Node)):Option (List sift_Node) :=
  some a0
def B3 (s102_:C3) (p0:sift_Node) (k2:(Int→(List sift_Node)→Option (List sift_Node))) (a0:Int) (a1:(List sift_Node)):Option (List sift_Node) :=
  bif (decide (a0<((p0.Args.length:Nat):Int))) then ((getI p0.Args a0).bind fun a3 =>
  (s102_ a3).bind fun a5 =>
  (apd 56 a1 ([a5])).bind fun a2 =>
  (ck (a0+1)).bind fun a4 =>
  k2 a4 a2) else (M8 a1)
def Cb (s102_:C3) (p0:sift_Node):Nat→Int→(List sift_Node)→Option (List sift_Node)
  | 0,_,_=>none
  | n+1,a1,a0=>B3 s102_ p0 (Cb s102_ p0 n) a1 a0
def Lv (F:Nat) (s68_:Ce) (s102_:C3) (p0:sift_Node):Option (List sift_Node) :=
  Cb s102_ p0 F 0 ([])
def E4 (F:Nat) (s68_:Ce) (s102_:C3) (p0:sift_Node):Option sift_Node :=
  bif (p0.Op==3) then ((getI p0.Args 0).bind fun u7 =>
  (s68_ u7).bind fun a1 =>
  some a1) else (bif (decide (p0.Op≥8)) then ((s68_ p0).bind fun a2 =>
  some (sift_Node.mk 3 0 0 0 ([a2]))) else ((Wu (⟨[(0:Int),3,3,(0:Int),1,1,1,1],rfl⟩:P5 Int 8) p0.Op).bind fun a0 =>
  (Lv F s68_ s102_ (sift_Node.mk (Xr .i64 p0.Op a0) p0.Value_ p0.Rays p0.Gates p0.Args)).bind fun a3 =>
  some (sift_Node.mk (Xr .i64 p0.Op a0) p0.Value_ p0.Rays p0.Gates a3)))
def Bz:Nat→Ce×C3
  | 0=>(fun _=>none,fun _=>none)
  | F+1=>(Hs F (Bz F).1 (Bz F).2,E4 F (Bz F).1 (Bz F).2)
def Hr (F:Nat):Ce:=(Bz F).1
def Py (F:Nat):C3:=(Bz F).2
def Rg (a0:(List sift_Rule)):Option ((List sift_Rule)×Int) :=
  some (a0,0)
def Ll (F:Nat) (p0:(List sift_Rule)) (k2:(Int→(List sift_Rule)→Option ((List sift_Rule)×Int))) (a0:Int) (a1:(List sift_Rule)):Option ((List sift_Rule)×Int) :=
  bif (decide (a0<((p0.length:Nat):Int))) then ((getI p0 a0).bind fun a2 =>
  (Hr F a2.When).bind fun a5 =>
  (apd 72 a1 ([(sift_Rule.mk a2.Name a5)])).bind fun a3 =>
  (ck (a0+1)).bind fun a4 =>
  k2 a4 a3) else (Rg a1)
def Lm (F:Nat) (p0:(List sift_Rule)):Nat→Int→(List sift_Rule)→Option ((List sift_Rule)×Int)
  | 0,_,_=>none
  | n+1,a1,a0=>Ll F p0 (Lm F p0 n) a1 a0
def Ka (F:Nat) (p0:(List sift_Rule)):Option ((List sift_Rule)×Int) :=
  (Ec F p0).bind fun y5 =>
  bif (y5 != 0) then (some (([]:(List sift_Rule)),y5)) else (Lm F p0 F 0 ([]))
def B1 (p0:Int) (p1:Int) (p2:Int):Bool :=
  bif (decide (p1≤p0)) then (decide (p0≤p2)) else false
def E6 (c4:Bool):Option Int :=
  bif c4 then (some 3) else (some 0)
def Fo (p0:api_Site) (c3:Bool):Option Int :=
  bif c3 then (some 3) else (bif (!(B1 p0.Rose 1 90)) then (E6 (!(B1 p0.Rose 1 90))) else (bif (!(B1 p0.Gates 1 200)) then (E6 (!(B1 p0.Gates 1 200))) else (bif (!(B1 p0.Step 50 2000)) then (E6 (!(B1 p0.Step 50 2000))) else (E6 (!(B1 p0.Width 0 8))))))
def Q2 (F:Nat) (p0:api_Site):Option Int :=
  (beam_Name F p0.Name).bind fun y2 =>
  bif (!y2) then (some 10) else (bif (!(B1 p0.X (-1048576) 1048576)) then (Fo p0 (!(B1 p0.X (-1048576) 1048576))) else (bif (!(B1 p0.Y (-1048576) 1048576)) then (Fo p0 (!(B1 p0.Y (-1048576) 1048576))) else (Fo p0 (!(B1 p0.Z 0 20000)))))
def Ay (p0:Int) (p1:Int) (p2:Int):Bool :=
  bif (decide (p1≤p0)) then (decide (p0≤p2)) else false
def Al (p0:api_Span) (p1:Int) (p2:Int):Bool :=
  bif (bif (decide (p1≤p0.Lo)) then (decide (p0.Lo≤p0.Hi)) else false) then (decide (p0.Hi≤p2)) else false
def Nm:Option Bool :=
  some true
def Nl (p0:(List api_Span)) (k2:(Int→Option Bool)) (a1:Int):Option Bool :=
  bif (decide (a1<((p0.length:Nat):Int))) then ((getI p0 a1).bind fun a0 =>
  (gd (((!(Ay a0.Lo (-32768) 32767))==false&&true)) (ck (a0.Lo+65536)) 0).bind fun a2 =>
  (gd (((!(Ay a0.Lo (-32768) 32767))==false&&true)) (ck (a2-1)) 0).bind fun a3 =>
  bif (bif (!(Ay a0.Lo (-32768) 32767)) then true else (!(Ay a0.Hi a0.Lo a3))) then (some false) else ((ck (a1+1)).bind fun a4 =>
  k2 a4)) else (Nm)
def Kt (p0:(List api_Span)):Nat→Int→Option Bool
  | 0,_=>none
  | n+1,a0=>Nl p0 (Kt p0 n) a0
def R2 (F:Nat) (p0:(List api_Span)):Option Bool :=
  Kt p0 F 0
def Dr (c7:Bool):Option Int :=
  bif (!c7) then (some 3) else (some 0)
def H9 (F:Nat) (p0:api_Echo) (c9:Bool):Option Int :=
  bif c9 then (bif (p0.Kind==2) then (Dr (bif (bif (bif (bif (bif (bif (Al p0.Power 0 1073741824) then (decide (p0.Power.Lo>0)) else false) then (Al p0.Ratio 0 1000000) else false) then (Al p0.Match 0 1000) else false) then (Ay p0.Spread 0 65535) else false) then ((((p0.Steps.1.Lo:Int)==0)&&(((p0.Steps.1.Hi:Int)==0)&&true))&&((((p0.Steps.2.Lo:Int)==0)&&(((p0.Steps.2.Hi:Int)==0)&&true))&&true)) else false) then (((p0.Turn.Lo:Int)==0)&&(((p0.Turn.Hi:Int)==0)&&true)) else false)) else (bif (bif (bif (bif (bif (Al p0.Power 0 1073741824) then (decide (p0.Power.Lo>0)) else false) then (Al p0.Ratio 0 1000000) else false) then (Al p0.Match 0 1000) else false) then (Ay p0.Spread 0 65535) else false) then ((R2 F ([(api_Span.mk p0.Steps.1.Lo p0.Steps.1.Hi),(api_Span.mk p0.Steps.2.Lo p0.Steps.2.Hi),p0.Turn])).bind fun a0 =>
  Dr a0) else (Dr false))) else (some 2)
def Pi (F:Nat) (p0:api_Echo):Option Int :=
  bif (p0.Kind==1) then (Dr (bif (Al p0.Power 0 1073741824) then (((p0.Kind:Int)==1)&&((((p0.Power.Lo:Int)==0)&&(((p0.Power.Hi:Int)==p0.Power.Hi)&&true))&&(((((p0.Steps.1.Lo:Int)==0)&&(((p0.Steps.1.Hi:Int)==0)&&true))&&((((p0.Steps.2.Lo:Int)==0)&&(((p0.Steps.2.Hi:Int)==0)&&true))&&true))&&(((p0.Spread:Int)==0)&&((((p0.Ratio.Lo:Int)==0)&&(((p0.Ratio.Hi:Int)==0)&&true))&&((((p0.Match.Lo:Int)==0)&&(((p0.Match.Hi:Int)==0)&&true))&&((((p0.Turn.Lo:Int)==0)&&(((p0.Turn.Hi:Int)==0)&&true))&&true))))))) else false)) else (bif (p0.Kind==2) then (H9 F p0 (p0.Kind==2)) else (H9 F p0 (p0.Kind==3)))
def L6:Option Int :=
  some 0
def L7 (a0:Int) (k3:(Int→Option Int)):Option Int :=
  (ck (a0+1)).bind fun a1 =>
  k3 a1
def L1 (F:Nat) (a4:Int) (k3:(Int→Option Int)) (a2:(List api_Echo)) (k5:(Int→Option Int)) (a1:Int):Option Int :=
  bif (decide (a1<((a2.length:Nat):Int))) then ((getI a2 a1).bind fun a0 =>
  (Pi F (api_Echo.mk a0.Kind a0.Power ((api_Span.mk a0.Steps.1.Lo a0.Steps.1.Hi),(api_Span.mk a0.Steps.2.Lo a0.Steps.2.Hi)) a0.Spread a0.Ratio a0.Match a0.Turn)).bind fun a3 =>
  bif (a3 != 0) then (some a3) else ((ck (a1+1)).bind fun a5 =>
  k5 a5)) else (L7 a4 k3)
def Gh (F:Nat) (a1:Int) (k3:(Int→Option Int)) (a0:(List api_Echo)):Nat→Int→Option Int
  | 0,_=>none
  | n+1,a2=>L1 F a1 k3 a0 (Gh F a1 k3 a0 n) a2
def L0 (F:Nat) (p0:api_Sweep) (k3:(Int→Option Int)) (a0:Int):Option Int :=
  bif (decide (a0<((p0.Rays.length:Nat):Int))) then ((getI p0.Rays a0).bind fun a1 =>
  Gh F a0 k3 a1 F 0) else (L6)
def Gg (F:Nat) (p0:api_Sweep):Nat→Int→Option Int
  | 0,_=>none
  | n+1,a0=>L0 F p0 (Gg F p0 n) a0
def L5 (F:Nat) (p0:api_Sweep):Option Int :=
  Gg F p0 F 0
def L4 (F:Nat) (p0:api_Sweep) (k6:(Int→Option Int)) (a0:Int):Option Int :=
  bif (decide (a0<((p0.Rays.length:Nat):Int))) then ((getI p0.Rays a0).bind fun a1 =>
  bif (((a1.length:Nat):Int) != p0.Site.Gates) then (some 11) else ((ck (a0+1)).bind fun a2 =>
  k6 a2)) else (L5 F p0)
def Gi (F:Nat) (p0:api_Sweep):Nat→Int→Option Int
  | 0,_=>none
  | n+1,a0=>L4 F p0 (Gi F p0 n) a0
def Ks (F:Nat) (p0:api_Sweep):Option Int :=
  (Q2 F p0.Site).bind fun y6 =>
  bif (y6 != 0) then (some y6) else (bif (bif (!(Ay p0.Tilt 0 256)) then true else (!(Ay p0.Time 0 4294967296))) then (some 3) else ((ck (4*p0.Site.Rose)).bind fun x7 =>
  bif (((p0.Rays.length:Nat):Int) != x7) then (some 11) else (Gi F p0 F 0)))
def Pz (F:Nat) (p0:api_Sweep):Option sift_scan :=
  (ck (((p0.Rays.length:Nat):Int)*p0.Site.Gates)).bind fun x6 =>
  some (sift_scan.mk p0 x6 ([]:List (ByteArray×(List Int))) ([]:List (ByteArray×(List sift_val))))
def Pg (F:Nat) (p0:(Option sift_scan)) (p1:sift_Node):Option (List Int) :=
  (p0).bind fun d8 =>
  (mkI 8 d8.n 0).bind fun a0 =>
  some a0
def M6 (F:Nat) (p0:Int) (c0_:sift_Node):Option Int :=
  (getI ([0,1,3]) c0_.Op).bind fun u6 =>
  some u6
def Hg (a0:(List Int)):Option (List Int) :=
  some a0
def Hf (F:Nat) (c1_0_:sift_Node) (k2:(Int→Int→(List Int)→Option (List Int))) (a2:Int) (a0:Int) (a1:(List Int)):Option (List Int) :=
  bif (decide (a0<a2)) then ((M6 F a0 c1_0_).bind fun a5 =>
  (getI a1 a0).bind fun a6 =>
  (Pl a1 a0 a5).bind fun a3 =>
  (ck (a0+1)).bind fun a4 =>
  k2 a2 a4 a3) else (Hg a1)
def Ep (F:Nat) (c1_0_:sift_Node):Nat→Int→Int→(List Int)→Option (List Int)
  | 0,_,_,_=>none
  | n+1,a1,a2,a0=>Hf F c1_0_ (Ep F c1_0_ n) a1 a2 a0
def L8 (F:Nat) (p0:Int) (c1_0_:sift_Node):Option (List Int) :=
  (mkI 8 p0 0).bind fun l6 =>
  Ep F c1_0_ F ((l6.length:Nat):Int) 0 l6
def Kr (F:Nat) (p0:(Option sift_scan)) (p1:sift_Node):Option (List Int) :=
  (p0).bind fun d8 =>
  (L8 F d8.n p1).bind fun a0 =>
  some a0
def Nj (F:Nat) (p0:Int) (c0_:(List Int)):Option Int :=
  (getI c0_ p0).bind fun u4 =>
  (ck (4-u4)).bind fun x5 =>
  some x5
def Mn (F:Nat) (p0:Int) (c0_:sift_Node) (c1_:(List Int)) (c2_:(List Int)):Option Int :=
  bif (c0_.Op==4) then ((getI c1_ p0).bind fun a0 =>
  (getI c2_ p0).bind fun a1 =>
  some (if a1>a0 then a1 else a0)) else ((getI c1_ p0).bind fun a2 =>
  (getI c2_ p0).bind fun a3 =>
  some (if a3<a2 then a3 else a2))
def H8 {σ:Type} (a1:Int) (k2:(Int→σ→Option (σ×Bool))) (a0:σ):Option (σ×Bool) :=
  (ck (a1+1)).bind fun a2 =>
  k2 a2 a0
def H7 {σ:Type} (body:(σ→Int→Option (σ×Bool))) (c1_:Int) (c3_:Int) (d3:sift_scan) (a7:Int) (a3:Int) (k2:(Int→σ→Option (σ×Bool))) (k4:(Int→σ→Option (σ×Bool))) (a0:Int) (a2:σ):Option (σ×Bool) :=
  (ck (d3.s.Site.Gates-1)).bind fun a4 =>
  (ck (a7+c3_)).bind fun a5 =>
  bif (decide (a0≤(if a5<a4 then a5 else a4))) then ((ck (a3+((d3.s.Rays.length:Nat):Int))).bind fun a8 =>
  (Xm a8 ((d3.s.Rays.length:Nat):Int)).bind fun a9 =>
  (ck (a9*d3.s.Site.Gates)).bind fun aA =>
  (ck (aA+a0)).bind fun a6 =>
  bif (a6 != c1_) then ((body a2 a6).bind fun a1 =>
  bif a1.2 then ((ck (a0+1)).bind fun aB =>
  k4 aB a1.1) else (some (a1.1,false))) else ((ck (a0+1)).bind fun aC =>
  k4 aC a2)) else (H8 a3 k2 a2)
def Eo {σ:Type} (body:(σ→Int→Option (σ×Bool))) (c1_:Int) (c3_:Int) (d3:sift_scan) (a0:Int) (a1:Int) (k2:(Int→σ→Option (σ×Bool))):Nat→Int→σ→Option (σ×Bool)
  | 0,_,_=>none
  | n+1,a3,a2=>H7 body c1_ c3_ d3 a0 a1 k2 (Eo body c1_ c3_ d3 a0 a1 k2 n) a3 a2
def H6 {σ:Type} (F:Nat) (body:(σ→Int→Option (σ×Bool))) (c1_:Int) (c3_:Int) (d3:sift_scan) (a1:Int) (a4:Int) (k2:(Int→σ→Option (σ×Bool))) (a2:Int) (a0:σ):Option (σ×Bool) :=
  bif (decide (a2≤a4)) then ((ck (a1-c3_)).bind fun a3 =>
  Eo body c1_ c3_ d3 a1 a2 k2 F (if a3>0 then a3 else 0) a0) else (some (a0,true))
def Em {σ:Type} (F:Nat) (body:(σ→Int→Option (σ×Bool))) (c1_:Int) (c3_:Int) (d3:sift_scan) (a0:Int) (a1:Int):Nat→Int→σ→Option (σ×Bool)
  | 0,_,_=>none
  | n+1,a3,a2=>H6 F body c1_ c3_ d3 a0 a1 (Em F body c1_ c3_ d3 a0 a1 n) a3 a2
def El {σ:Type} (F:Nat) (body:(σ→Int→Option (σ×Bool))) (s_:σ) (c1_:Int) (c3_:Int) (d3:sift_scan) (a0:Int) (a1:Int) (a2:Int):Option (σ×Bool) :=
  Em F body c1_ c3_ d3 a0 a2 F a1 s_
def Ge {σ:Type} (F:Nat) (c0_:(Option sift_scan)) (c1_:Int) (c2_:Int) (c3_:Int) (body:σ→Int→Option (σ×Bool)) (s_:σ):Option (σ×Bool) :=
  (c0_).bind fun d3 =>
  (Ys c1_ d3.s.Site.Gates).bind fun a0 =>
  (Xm c1_ d3.s.Site.Gates).bind fun a1 =>
  (ck (a0-c2_)).bind fun a2 =>
  (ck (a0+c2_)).bind fun a3 =>
  (ck (a3-a2)).bind fun a4 =>
  bif (decide (a4≥((d3.s.Rays.length:Nat):Int))) then ((ck (((d3.s.Rays.length:Nat):Int)-1)).bind fun a5 =>
  El F body s_ c1_ c3_ d3 a1 0 a5) else (El F body s_ c1_ c3_ d3 a1 a2 a3)
def Qs (p0:(Option sift_scan)) (p1:Int) (p2:Int) (p3:Int):Unit :=
  ()
def Jt (c0_:sift_Node) (c2_:(List Int)) (s_r:(Int×Nat)) (x_:Int):Option ((Int×Nat)×Bool) :=
  bif (c0_.Op==6) then ((getI c2_ x_).bind fun a0 =>
  some ((if a0<s_r.1 then a0 else s_r.1,0),true)) else ((getI c2_ x_).bind fun a1 =>
  some ((if a1>s_r.1 then a1 else s_r.1,0),true))
def Ju (tg_:Nat):Code:=.ret
def Fu (F:Nat) (p0:Int) (c0_:sift_Node) (c1_:(Option sift_scan)) (c2_:(List Int)) (a1:Int):Option Int :=
  (Ge F c1_ p0 c0_.Rays c0_.Gates (Jt c0_ c2_) (a1,0)).bind fun a0 =>
  bif a0.2 then (some a0.1.1) else (none)
def Mo (F:Nat) (p0:Int) (c0_:sift_Node) (c1_:(Option sift_scan)) (c2_:(List Int)):Option Int :=
  bif (c0_.Op==7) then (Fu F p0 c0_ c1_ c2_ 1) else (Fu F p0 c0_ c1_ c2_ 3)
def A6 (p0:Int):sift_val :=
  (sift_val.mk (api_Span.mk p0 p0) true)
def M5 (F:Nat) (p0:Int) (c0_:(Option sift_scan)) (c1_:sift_Node):Option sift_val :=
  (c0_).bind fun d8 =>
  (Ys p0 d8.s.Site.Gates).bind fun a2 =>
  (getI d8.s.Rays a2).bind fun a1 =>
  (Xm p0 d8.s.Site.Gates).bind fun a3 =>
  (getI a1 a3).bind fun a0 =>
  bif (c1_.Op==14) then (some (A6 c1_.Value_)) else (bif (c1_.Op==21) then (some (A6 a0.Kind)) else (bif (c1_.Op==22) then ((Ys p0 d8.s.Site.Gates).bind fun a4 =>
  some (A6 a4)) else (bif (c1_.Op==23) then ((Xm p0 d8.s.Site.Gates).bind fun a5 =>
  some (A6 a5)) else (bif (c1_.Op==24) then (some (A6 d8.s.Tilt)) else (bif (c1_.Op==15) then (some (sift_val.mk a0.Power true)) else (bif (a0.Kind==1) then (some (sift_val.mk (api_Span.mk 0 0) false)) else (bif (c1_.Op==16) then (some (sift_val.mk a0.Ratio true)) else (bif (c1_.Op==17) then (some (sift_val.mk a0.Match true)) else (bif (c1_.Op==18) then (some (A6 a0.Spread)) else (bif (a0.Kind==2) then (some (sift_val.mk (api_Span.mk 0 0) false)) else (bif (c1_.Op==19) then (some (sift_val.mk a0.Turn true)) else (some (sift_val.mk (api_Span.mk a0.Steps.1.Lo a0.Steps.1.Hi) true)))))))))))))
def Ew (a0:(List sift_val)):Option (List sift_val) :=
  some a0
def Ev (F:Nat) (c1_0_:(Option sift_scan)) (c1_1_:sift_Node) (k2:(Int→Int→(List sift_val)→Option (List sift_val))) (a2:Int) (a0:Int) (a1:(List sift_val)):Option (List sift_val) :=
  bif (decide (a0<a2)) then ((M5 F a0 c1_0_ c1_1_).bind fun a5 =>
  (getI a1 a0).bind fun a6 =>
  (Pl a1 a0 a5).bind fun a3 =>
  (ck (a0+1)).bind fun a4 =>
  k2 a2 a4 a3) else (Ew a1)
def D5 (F:Nat) (c1_0_:(Option sift_scan)) (c1_1_:sift_Node):Nat→Int→Int→(List sift_val)→Option (List sift_val)
  | 0,_,_,_=>none
  | n+1,a1,a2,a0=>Ev F c1_0_ c1_1_ (D5 F c1_0_ c1_1_ n) a1 a2 a0
def G6 (F:Nat) (p0:Int) (c1_0_:(Option sift_scan)) (c1_1_:sift_Node):Option (List sift_val) :=
  (mkI 24 p0 (sift_val.mk (api_Span.mk 0 0) false)).bind fun l8 =>
  D5 F c1_0_ c1_1_ F ((l8.length:Nat):Int) 0 l8
def Kq (F:Nat) (p0:(Option sift_scan)) (p1:sift_Node):Option (List sift_val) :=
  (p0).bind fun d9 =>
  (G6 F d9.n (some (sift_scan.mk d9.s d9.n ([]:(List (ByteArray×(List Int)))) ([]:(List (ByteArray×(List sift_val)))))) p1).bind fun a0 =>
  some a0
def Fl (c2_:(List Int)) (s_r:(Int×Int×Nat)) (x_:Int) (a0:Int):Option ((Int×Int×Nat)×Bool) :=
  (getI c2_ x_).bind fun a1 =>
  bif (a1 != 3) then ((ck (s_r.2.1+1)).bind fun a2 =>
  some ((a0,a2,0),true)) else (some ((a0,s_r.2.1,0),true))
def Jb (c2_:(List Int)) (s_r:(Int×Int×Nat)) (x_:Int):Option ((Int×Int×Nat)×Bool) :=
  (getI c2_ x_).bind fun a0 =>
  bif (a0==1) then ((ck (s_r.1+1)).bind fun a1 =>
  Fl c2_ s_r x_ a1) else (Fl c2_ s_r x_ s_r.1)
def Jc (tg_:Nat):Code:=.ret
def M4 (F:Nat) (p0:Int) (c0_:(Option sift_scan)) (c1_:sift_Node) (c2_:(List Int)):Option sift_val :=
  (Ge F c0_ p0 c1_.Rays c1_.Gates (Jb c2_) (0,0,0)).bind fun a0 =>
  bif a0.2 then (some (sift_val.mk (api_Span.mk a0.1.1 a0.1.2.1) true)) else (none)
def Gf (a0:sift_val) (a1:Int) (a2:Int):Option sift_val :=
  (ck (a0.span.Lo+a1)).bind fun a3 =>
  (ck (a0.span.Hi+a2)).bind fun a4 =>
  some (sift_val.mk (api_Span.mk a3 a4) true)
def Nk (F:Nat) (p0:Int) (c0_:(List sift_val)) (c1_:(List sift_val)) (c2_:sift_Node):Option sift_val :=
  (getI c0_ p0).bind fun a1 =>
  (gd (((!a1.has)==false&&true)) (getI c1_ p0) default).bind fun a3 =>
  bif (bif (!a1.has) then true else (!a3.has)) then (some (sift_val.mk (api_Span.mk 0 0) false)) else ((getI c0_ p0).bind fun a2 =>
  (getI c1_ p0).bind fun a0 =>
  bif (c2_.Op==27) then (Gf a2 (IntKind.i64.wrap (0-a0.span.Hi)) (IntKind.i64.wrap (0-a0.span.Lo))) else (Gf a2 a0.span.Lo a0.span.Hi))
def C2 (a0:Bool) (a1:Bool):Option Int :=
  bif a0 then (some 1) else (bif a1 then (some 2) else (some 3))
def Ea (c2_:sift_Node) (a0:Int) (a1:Int) (a2:Int) (a3:Int) (a4:Bool):Option Int :=
  bif a4 then (C2 (decide (a1≤a2)) (decide (a0≤a3))) else (bif (c2_.Op==12) then (C2 ((if a3>a1 then a3 else a1)==(if a2<a0 then a2 else a0)) (bif (decide (a0≤a3)) then (decide (a2≤a1)) else false)) else (bif (c2_.Op==13) then (C2 (bif (decide (a1<a2)) then true else (decide (a3<a0))) ((if a3>a1 then a3 else a1) != (if a2<a0 then a2 else a0))) else (C2 false false)))
def E9 (c2_:sift_Node) (a0:Int) (a1:Int) (a2:Int) (a3:Int) (a4:Bool):Option Int :=
  bif a4 then (C2 (decide (a1<a2)) (decide (a0<a3))) else (bif (c2_.Op==9) then (Ea c2_ a0 a1 a2 a3 (c2_.Op==9)) else (Ea c2_ a0 a1 a2 a3 (c2_.Op==11)))
def E8 (c2_:sift_Node) (a0:Int) (a1:Int) (a2:Int) (a3:Int):Option Int :=
  bif (c2_.Op==8) then (E9 c2_ a0 a1 a2 a3 (c2_.Op==8)) else (E9 c2_ a0 a1 a2 a3 (c2_.Op==10))
def Js (F:Nat) (p0:Int) (c0_:(List sift_val)) (c1_:(List sift_val)) (c2_:sift_Node):Option Int :=
  (getI c0_ p0).bind fun a2 =>
  (gd (((!a2.has)==false&&true)) (getI c1_ p0) default).bind fun a3 =>
  bif (bif (!a2.has) then true else (!a3.has)) then (some 3) else ((getI c0_ p0).bind fun a0 =>
  (getI c1_ p0).bind fun a1 =>
  bif (bif (c2_.Op==10) then true else (c2_.Op==11)) then (E8 c2_ a1.span.Lo a1.span.Hi a0.span.Lo a0.span.Hi) else (E8 c2_ a0.span.Lo a0.span.Hi a1.span.Lo a1.span.Hi))
abbrev Ag:=sift_scan→sift_Node→Option ((List Int)×sift_scan)
abbrev Af:=sift_scan→sift_Node→Option ((List sift_val)×sift_scan)
def Hj (a0:(List Int)):Option (List Int) :=
  some a0
def Hh (F:Nat) (c1_0_:(List Int)) (k2:(Int→Int→(List Int)→Option (List Int))) (a2:Int) (a0:Int) (a1:(List Int)):Option (List Int) :=
  bif (decide (a0<a2)) then ((Nj F a0 c1_0_).bind fun a5 =>
  (getI a1 a0).bind fun a6 =>
  (Pl a1 a0 a5).bind fun a3 =>
  (ck (a0+1)).bind fun a4 =>
  k2 a2 a4 a3) else (Hj a1)
def Er (F:Nat) (c1_0_:(List Int)):Nat→Int→Int→(List Int)→Option (List Int)
  | 0,_,_,_=>none
  | n+1,a1,a2,a0=>Hh F c1_0_ (Er F c1_0_ n) a1 a2 a0
def L9 (F:Nat) (s76_:Ag) (s84_:Af) (p0:Int) (c1_0_:(List Int)):Option (List Int) :=
  (mkI 8 p0 0).bind fun l5 =>
  Er F c1_0_ F ((l5.length:Nat):Int) 0 l5
def Qa (F:Nat) (s76_:Ag) (s84_:Af) (p0:sift_scan) (p1:sift_Node):Option ((List Int)×sift_scan) :=
  (getI p1.Args 0).bind fun a1 =>
  (s76_ p0 a1).bind fun a0 =>
  (L9 F s76_ s84_ p0.n a0.1).bind fun a2 =>
  some (a2,(sift_scan.mk p0.s p0.n a0.2.tests a0.2.values))
def Hl (a0:(List Int)):Option (List Int) :=
  some a0
def Hk (F:Nat) (c1_0_:sift_Node) (c1_1_:(List Int)) (c1_2_:(List Int)) (k2:(Int→Int→(List Int)→Option (List Int))) (a2:Int) (a0:Int) (a1:(List Int)):Option (List Int) :=
  bif (decide (a0<a2)) then ((Mn F a0 c1_0_ c1_1_ c1_2_).bind fun a5 =>
  (getI a1 a0).bind fun a6 =>
  (Pl a1 a0 a5).bind fun a3 =>
  (ck (a0+1)).bind fun a4 =>
  k2 a2 a4 a3) else (Hl a1)
def Es (F:Nat) (c1_0_:sift_Node) (c1_1_:(List Int)) (c1_2_:(List Int)):Nat→Int→Int→(List Int)→Option (List Int)
  | 0,_,_,_=>none
  | n+1,a1,a2,a0=>Hk F c1_0_ c1_1_ c1_2_ (Es F c1_0_ c1_1_ c1_2_ n) a1 a2 a0
def La (F:Nat) (s76_:Ag) (s84_:Af) (p0:Int) (c1_0_:sift_Node) (c1_1_:(List Int)) (c1_2_:(List Int)):Option (List Int) :=
  (mkI 8 p0 0).bind fun a0 =>
  Es F c1_0_ c1_1_ c1_2_ F ((a0.length:Nat):Int) 0 a0
def Lt (F:Nat) (s76_:Ag) (s84_:Af) (p0:sift_scan) (p1:sift_Node):Option ((List Int)×sift_scan) :=
  (getI p1.Args 0).bind fun a2 =>
  (getI p1.Args 1).bind fun a3 =>
  (s76_ p0 a2).bind fun a0 =>
  (s76_ (sift_scan.mk p0.s p0.n a0.2.tests a0.2.values) a3).bind fun a1 =>
  (La F s76_ s84_ p0.n p1 a0.1 a1.1).bind fun a4 =>
  some (a4,(sift_scan.mk p0.s p0.n a1.2.tests a1.2.values))
def Ho (a0:(List Int)):Option (List Int) :=
  some a0
def Hm (F:Nat) (c1_0_:sift_Node) (c1_1_:(Option sift_scan)) (c1_2_:(List Int)) (k2:(Int→Int→(List Int)→Option (List Int))) (a2:Int) (a0:Int) (a1:(List Int)):Option (List Int) :=
  bif (decide (a0<a2)) then ((Mo F a0 c1_0_ c1_1_ c1_2_).bind fun a5 =>
  (getI a1 a0).bind fun a6 =>
  (Pl a1 a0 a5).bind fun a3 =>
  (ck (a0+1)).bind fun a4 =>
  k2 a2 a4 a3) else (Ho a1)
def Et (F:Nat) (c1_0_:sift_Node) (c1_1_:(Option sift_scan)) (c1_2_:(List Int)):Nat→Int→Int→(List Int)→Option (List Int)
  | 0,_,_,_=>none
  | n+1,a1,a2,a0=>Hm F c1_0_ c1_1_ c1_2_ (Et F c1_0_ c1_1_ c1_2_ n) a1 a2 a0
def Lb (F:Nat) (s76_:Ag) (s84_:Af) (p0:Int) (c1_0_:sift_Node) (c1_1_:(Option sift_scan)) (c1_2_:(List Int)):Option (List Int) :=
  (mkI 8 p0 0).bind fun a0 =>
  Et F c1_0_ c1_1_ c1_2_ F ((a0.length:Nat):Int) 0 a0
def Lu (F:Nat) (s76_:Ag) (s84_:Af) (p0:sift_scan) (p1:sift_Node):Option ((List Int)×sift_scan) :=
  (getI p1.Args 0).bind fun a1 =>
  (s76_ p0 a1).bind fun a0 =>
  (Lb F s76_ s84_ p0.n p1 (some (sift_scan.mk p0.s p0.n a0.2.tests a0.2.values)) a0.1).bind fun a2 =>
  some (a2,(sift_scan.mk p0.s p0.n a0.2.tests a0.2.values))
def Hq (a0:(List Int)):Option (List Int) :=
  some a0
def Hp (F:Nat) (c1_0_:(List sift_val)) (c1_1_:(List sift_val)) (c1_2_:sift_Node) (k2:(Int→Int→(List Int)→Option (List Int))) (a2:Int) (a0:Int) (a1:(List Int)):Option (List Int) :=
  bif (decide (a0<a2)) then ((Js F a0 c1_0_ c1_1_ c1_2_).bind fun a5 =>
  (getI a1 a0).bind fun a6 =>
  (Pl a1 a0 a5).bind fun a3 =>
  (ck (a0+1)).bind fun a4 =>
  k2 a2 a4 a3) else (Hq a1)
def Eu (F:Nat) (c1_0_:(List sift_val)) (c1_1_:(List sift_val)) (c1_2_:sift_Node):Nat→Int→Int→(List Int)→Option (List Int)
  | 0,_,_,_=>none
  | n+1,a1,a2,a0=>Hp F c1_0_ c1_1_ c1_2_ (Eu F c1_0_ c1_1_ c1_2_ n) a1 a2 a0
def Lc (F:Nat) (s76_:Ag) (s84_:Af) (p0:Int) (c1_0_:(List sift_val)) (c1_1_:(List sift_val)) (c1_2_:sift_Node):Option (List Int) :=
  (mkI 8 p0 0).bind fun a0 =>
  Eu F c1_0_ c1_1_ c1_2_ F ((a0.length:Nat):Int) 0 a0
def Cp (F:Nat) (s76_:Ag) (s84_:Af) (p0:sift_scan) (p1:sift_Node):Option ((List Int)×sift_scan) :=
  (getI p1.Args 0).bind fun a2 =>
  (getI p1.Args 1).bind fun a3 =>
  (s84_ p0 a2).bind fun a0 =>
  (s84_ (sift_scan.mk p0.s p0.n a0.2.tests a0.2.values) a3).bind fun a1 =>
  (Lc F s76_ s84_ p0.n a0.1 a1.1 p1).bind fun a4 =>
  some (a4,(sift_scan.mk p0.s p0.n a1.2.tests a1.2.values))
def Ey (a0:(List sift_val)):Option (List sift_val) :=
  some a0
def Ex (F:Nat) (c1_0_:(Option sift_scan)) (c1_1_:sift_Node) (c1_2_:(List Int)) (k2:(Int→Int→(List sift_val)→Option (List sift_val))) (a2:Int) (a0:Int) (a1:(List sift_val)):Option (List sift_val) :=
  bif (decide (a0<a2)) then ((M4 F a0 c1_0_ c1_1_ c1_2_).bind fun a5 =>
  (getI a1 a0).bind fun a6 =>
  (Pl a1 a0 a5).bind fun a3 =>
  (ck (a0+1)).bind fun a4 =>
  k2 a2 a4 a3) else (Ey a1)
def D6 (F:Nat) (c1_0_:(Option sift_scan)) (c1_1_:sift_Node) (c1_2_:(List Int)):Nat→Int→Int→(List sift_val)→Option (List sift_val)
  | 0,_,_,_=>none
  | n+1,a1,a2,a0=>Ex F c1_0_ c1_1_ c1_2_ (D6 F c1_0_ c1_1_ c1_2_ n) a1 a2 a0
def G7 (F:Nat) (s76_:Ag) (s84_:Af) (p0:Int) (c1_0_:(Option sift_scan)) (c1_1_:sift_Node) (c1_2_:(List Int)):Option (List sift_val) :=
  (mkI 24 p0 (sift_val.mk (api_Span.mk 0 0) false)).bind fun a0 =>
  D6 F c1_0_ c1_1_ c1_2_ F ((a0.length:Nat):Int) 0 a0
def Ni (F:Nat) (s76_:Ag) (s84_:Af) (p0:sift_scan) (p1:sift_Node):Option ((List sift_val)×sift_scan) :=
  (getI p1.Args 0).bind fun a1 =>
  (s76_ p0 a1).bind fun a0 =>
  (G7 F s76_ s84_ p0.n (some (sift_scan.mk p0.s p0.n a0.2.tests a0.2.values)) p1 a0.1).bind fun a2 =>
  some (a2,(sift_scan.mk p0.s p0.n a0.2.tests a0.2.values))
def F1 (a0:(List sift_val)):Option (List sift_val) :=
  some a0
def Ez (F:Nat) (c1_0_:(List sift_val)) (c1_1_:(List sift_val)) (c1_2_:sift_Node) (k2:(Int→Int→(List sift_val)→Option (List sift_val))) (a2:Int) (a0:Int) (a1:(List sift_val)):Option (List sift_val) :=
  bif (decide (a0<a2)) then ((Nk F a0 c1_0_ c1_1_ c1_2_).bind fun a5 =>
  (getI a1 a0).bind fun a6 =>
  (Pl a1 a0 a5).bind fun a3 =>
  (ck (a0+1)).bind fun a4 =>
  k2 a2 a4 a3) else (F1 a1)
def D7 (F:Nat) (c1_0_:(List sift_val)) (c1_1_:(List sift_val)) (c1_2_:sift_Node):Nat→Int→Int→(List sift_val)→Option (List sift_val)
  | 0,_,_,_=>none
  | n+1,a1,a2,a0=>Ez F c1_0_ c1_1_ c1_2_ (D7 F c1_0_ c1_1_ c1_2_ n) a1 a2 a0
def G8 (F:Nat) (s76_:Ag) (s84_:Af) (p0:Int) (c1_0_:(List sift_val)) (c1_1_:(List sift_val)) (c1_2_:sift_Node):Option (List sift_val) :=
  (mkI 24 p0 (sift_val.mk (api_Span.mk 0 0) false)).bind fun a0 =>
  D7 F c1_0_ c1_1_ c1_2_ F ((a0.length:Nat):Int) 0 a0
def Mp (F:Nat) (s76_:Ag) (s84_:Af) (p0:sift_scan) (p1:sift_Node):Option ((List sift_val)×sift_scan) :=
  (getI p1.Args 0).bind fun a2 =>
  (getI p1.Args 1).bind fun a3 =>
  (s84_ p0 a2).bind fun a0 =>
  (s84_ (sift_scan.mk p0.s p0.n a0.2.tests a0.2.values) a3).bind fun a1 =>
  (G8 F s76_ s84_ p0.n a0.1 a1.1 p1).bind fun a4 =>
  some (a4,(sift_scan.mk p0.s p0.n a1.2.tests a1.2.values))
def Mq (F:Nat) (s76_:Ag) (s84_:Af) (p0:sift_scan) (p1:sift_Node):Option ((List Int)×sift_scan) :=
  (Gw F p1).bind fun a0 =>
  bif ((lkM p0.tests a0).isSome) then (some (((lkM p0.tests a0).getD []),p0)) else (bif (p1.Op==0) then ((Pg F (some p0) p1).bind fun aC =>
  some (aC,(sift_scan.mk p0.s p0.n (upM p0.tests a0 aC) p0.values))) else (bif (p1.Op==1) then ((Kr F (some p0) p1).bind fun aD =>
  some (aD,(sift_scan.mk p0.s p0.n (upM p0.tests a0 aD) p0.values))) else (bif (p1.Op==2) then ((Kr F (some p0) p1).bind fun aE =>
  some (aE,(sift_scan.mk p0.s p0.n (upM p0.tests a0 aE) p0.values))) else (bif (p1.Op==3) then ((Qa F s76_ s84_ p0 p1).bind fun a8 =>
  some (a8.1,(sift_scan.mk p0.s p0.n (upM a8.2.tests a0 a8.1) a8.2.values))) else (bif (p1.Op==4) then ((Lt F s76_ s84_ p0 p1).bind fun a9 =>
  some (a9.1,(sift_scan.mk p0.s p0.n (upM a9.2.tests a0 a9.1) a9.2.values))) else (bif (p1.Op==5) then ((Lt F s76_ s84_ p0 p1).bind fun aA =>
  some (aA.1,(sift_scan.mk p0.s p0.n (upM aA.2.tests a0 aA.1) aA.2.values))) else (bif (p1.Op==6) then ((Lu F s76_ s84_ p0 p1).bind fun aB =>
  some (aB.1,(sift_scan.mk p0.s p0.n (upM aB.2.tests a0 aB.1) aB.2.values))) else (bif (p1.Op==7) then ((Lu F s76_ s84_ p0 p1).bind fun a1 =>
  some (a1.1,(sift_scan.mk p0.s p0.n (upM a1.2.tests a0 a1.1) a1.2.values))) else (bif (p1.Op==8) then ((Cp F s76_ s84_ p0 p1).bind fun a2 =>
  some (a2.1,(sift_scan.mk p0.s p0.n (upM a2.2.tests a0 a2.1) a2.2.values))) else (bif (p1.Op==9) then ((Cp F s76_ s84_ p0 p1).bind fun a3 =>
  some (a3.1,(sift_scan.mk p0.s p0.n (upM a3.2.tests a0 a3.1) a3.2.values))) else (bif (p1.Op==10) then ((Cp F s76_ s84_ p0 p1).bind fun a4 =>
  some (a4.1,(sift_scan.mk p0.s p0.n (upM a4.2.tests a0 a4.1) a4.2.values))) else (bif (p1.Op==11) then ((Cp F s76_ s84_ p0 p1).bind fun a5 =>
  some (a5.1,(sift_scan.mk p0.s p0.n (upM a5.2.tests a0 a5.1) a5.2.values))) else (bif (p1.Op==12) then ((Cp F s76_ s84_ p0 p1).bind fun a6 =>
  some (a6.1,(sift_scan.mk p0.s p0.n (upM a6.2.tests a0 a6.1) a6.2.values))) else (bif (p1.Op==13) then ((Cp F s76_ s84_ p0 p1).bind fun a7 =>
  some (a7.1,(sift_scan.mk p0.s p0.n (upM a7.2.tests a0 a7.1) a7.2.values))) else (none)))))))))))))))
def M7 (F:Nat) (s76_:Ag) (s84_:Af) (p0:sift_scan) (p1:sift_Node):Option ((List sift_val)×sift_scan) :=
  (Gw F p1).bind fun a0 =>
  bif ((lkM p0.values a0).isSome) then (some (((lkM p0.values a0).getD []),p0)) else (bif (p1.Op==25) then ((Ni F s76_ s84_ p0 p1).bind fun a1 =>
  some (a1.1,(sift_scan.mk p0.s p0.n a1.2.tests (upM a1.2.values a0 a1.1)))) else (bif (p1.Op==26) then (bif (p1.Op==26) then ((Mp F s76_ s84_ p0 p1).bind fun a2 =>
  some (a2.1,(sift_scan.mk p0.s p0.n a2.2.tests (upM a2.2.values a0 a2.1)))) else ((Kq F (some p0) p1).bind fun a4 =>
  some (a4,(sift_scan.mk p0.s p0.n p0.tests (upM p0.values a0 a4))))) else (bif (p1.Op==27) then ((Mp F s76_ s84_ p0 p1).bind fun a3 =>
  some (a3.1,(sift_scan.mk p0.s p0.n a3.2.tests (upM a3.2.values a0 a3.1)))) else ((Kq F (some p0) p1).bind fun a5 =>
  some (a5,(sift_scan.mk p0.s p0.n p0.tests (upM p0.values a0 a5)))))))
def Bh:Nat→Ag×Af
  | 0=>(fun _ _=>none,fun _ _=>none)
  | F+1=>(Mq F (Bh F).1 (Bh F).2,M7 F (Bh F).1 (Bh F).2)
def Ph (F:Nat):Ag:=(Bh F).1
def Rd (a0:(List (List sift_Verdict))):Option ((List (List sift_Verdict))×Int) :=
  some (a0,0)
def Re (a1:Int) (k3:((List (List sift_Verdict))→Int→Option ((List (List sift_Verdict))×Int))) (a0:(List (List sift_Verdict))):Option ((List (List sift_Verdict))×Int) :=
  (ck (a1+1)).bind fun a2 =>
  k3 a0 a2
def Rf (a1:Int) (k5:((List (List sift_Verdict))→Int→Option ((List (List sift_Verdict))×Int))) (a0:(List (List sift_Verdict))):Option ((List (List sift_Verdict))×Int) :=
  (ck (a1+1)).bind fun a2 =>
  k5 a0 a2
def Nz (a1:Int) (a0:(List (List sift_Verdict))) (a6:Int) (k5:((List (List sift_Verdict))→Int→Option ((List (List sift_Verdict))×Int))) (a7:Int) (a2:(List Int)):Option ((List (List sift_Verdict))×Int) :=
  (getI a0 a1).bind fun a5 =>
  (apd 32 a5 ([(sift_Verdict.mk a7 a2)])).bind fun a3 =>
  (getI a0 a1).bind fun a8 =>
  (Pl a0 a1 a3).bind fun a4 =>
  Rf a6 k5 a4
def P0 (a1:Int) (k8:((List Int)→Int→Option ((List (List sift_Verdict))×Int))) (a0:(List Int)):Option ((List (List sift_Verdict))×Int) :=
  (ck (a1+1)).bind fun a2 =>
  k8 a0 a2
def Rb (a4:(List (List Int))) (a2:Int) (a8:(List api_Echo)) (a5:(List (List sift_Verdict))) (a3:Int) (k5:((List (List sift_Verdict))→Int→Option ((List (List sift_Verdict))×Int))) (k8:((List Int)→Int→Option ((List (List sift_Verdict))×Int))) (a1:(List Int)) (a0:Int):Option ((List (List sift_Verdict))×Int) :=
  bif (decide (a0<((a4.length:Nat):Int))) then ((getI a4 a0).bind fun a9 =>
  (ck (a2*((a8.length:Nat):Int))).bind fun aA =>
  (ck (aA+a3)).bind fun aB =>
  (getI a9 aB).bind fun a6 =>
  bif (a6==1) then (Nz a2 a5 a3 k5 a0 a1) else (bif (a6==2) then ((apd 8 a1 ([a0])).bind fun a7 =>
  P0 a0 k8 a7) else (P0 a0 k8 a1))) else (Nz a2 a5 a3 k5 (-1) a1)
def P3 (a0:(List (List Int))) (a3:Int) (a2:(List api_Echo)) (a1:(List (List sift_Verdict))) (a4:Int) (k5:((List (List sift_Verdict))→Int→Option ((List (List sift_Verdict))×Int))):Nat→(List Int)→Int→Option ((List (List sift_Verdict))×Int)
  | 0,_,_=>none
  | n+1,a5,a6=>Rb a0 a3 a2 a1 a4 k5 (P3 a0 a3 a2 a1 a4 k5 n) a5 a6
def Ra (F:Nat) (a4:(List (List Int))) (a2:Int) (k3:((List (List sift_Verdict))→Int→Option ((List (List sift_Verdict))×Int))) (a1:(List api_Echo)) (k5:((List (List sift_Verdict))→Int→Option ((List (List sift_Verdict))×Int))) (a0:(List (List sift_Verdict))) (a3:Int):Option ((List (List sift_Verdict))×Int) :=
  bif (decide (a3<((a1.length:Nat):Int))) then (P3 a4 a2 a1 a0 a3 k5 F ([]) 0) else (Re a2 k3 a0)
def P2 (F:Nat) (a0:(List (List Int))) (a2:Int) (k3:((List (List sift_Verdict))→Int→Option ((List (List sift_Verdict))×Int))) (a1:(List api_Echo)):Nat→(List (List sift_Verdict))→Int→Option ((List (List sift_Verdict))×Int)
  | 0,_,_=>none
  | n+1,a3,a4=>Ra F a0 a2 k3 a1 (P2 F a0 a2 k3 a1 n) a3 a4
def R9 (F:Nat) (p1:api_Sweep) (a2:(List (List Int))) (k3:((List (List sift_Verdict))→Int→Option ((List (List sift_Verdict))×Int))) (a1:(List (List sift_Verdict))) (a0:Int):Option ((List (List sift_Verdict))×Int) :=
  bif (decide (a0<((p1.Rays.length:Nat):Int))) then ((getI p1.Rays a0).bind fun a3 =>
  P2 F a2 a0 k3 a3 F a1 0) else (Rd a1)
def P1 (F:Nat) (p1:api_Sweep) (a0:(List (List Int))):Nat→(List (List sift_Verdict))→Int→Option ((List (List sift_Verdict))×Int)
  | 0,_,_=>none
  | n+1,a1,a2=>R9 F p1 a0 (P1 F p1 a0 n) a1 a2
def Rc (F:Nat) (p1:api_Sweep) (a2:(List (ByteArray×(List Int)))) (a3:(List (ByteArray×(List sift_val)))) (a0:(List (List Int))):Option ((List (List sift_Verdict))×Int) :=
  (mkI 24 ((p1.Rays.length:Nat):Int) ([]:(List sift_Verdict))).bind fun a1 =>
  P1 F p1 a0 F a1 0
def Qj (F:Nat) (p0:(List sift_Rule)) (p1:api_Sweep) (a5:sift_scan) (a6:((List (ByteArray×(List Int)))→(List (ByteArray×(List sift_val)))→Int→(List (List Int))→Option ((List (List sift_Verdict))×Int))) (a2:(List (ByteArray×(List Int)))) (a3:(List (ByteArray×(List sift_val)))) (a0:Int) (a4:(List (List Int))):Option ((List (List sift_Verdict))×Int) :=
  bif (decide (a0<((p0.length:Nat):Int))) then ((getI p0 a0).bind fun a8 =>
  (Ph F (sift_scan.mk a5.s a5.n a2 a3) a8.When).bind fun a1 =>
  (apd 24 a4 ([a1.1])).bind fun a7 =>
  (ck (a0+1)).bind fun a9 =>
  a6 a1.2.tests a1.2.values a9 a7) else (Rc F p1 a2 a3 a4)
def Mw (F:Nat) (p0:(List sift_Rule)) (p1:api_Sweep) (a0:sift_scan):Nat→(List (ByteArray×(List Int)))→(List (ByteArray×(List sift_val)))→Int→(List (List Int))→Option ((List (List sift_Verdict))×Int)
  | 0,_,_,_,_=>none
  | n+1,a1,a2,a4,a3=>Qj F p0 p1 a0 (Mw F p0 p1 a0 n) a1 a2 a4 a3
def Uj (F:Nat) (p0:(List sift_Rule)) (p1:api_Sweep):Option ((List (List sift_Verdict))×Int) :=
  (Ec F p0).bind fun a1 =>
  bif (a1 != 0) then (some (([]:(List (List sift_Verdict))),a1)) else ((Ks F p1).bind fun a2 =>
  bif (a2 != 0) then (some (([]:(List (List sift_Verdict))),a2)) else ((Pz F p1).bind fun a0 =>
  Mw F p0 p1 a0 F a0.tests a0.values 0 ([])))
def Sg (p0:ByteArray):Option ByteArray :=
  some p0
def Sf (p0:ByteArray) (p1:ByteArray) (k2:(Int→Option ByteArray)) (a0:Int):Option ByteArray :=
  bif (decide (a0<((p0.size:Nat):Int))) then ((Qn p0 a0).bind fun a2 =>
  bif (decide ((Bn p1 a2)<0)) then ((Jk p0 0 a0).bind fun a1 =>
  some a1) else ((ck (a0+1)).bind fun a3 =>
  k2 a3)) else (Sg p0)
def Q0 (p0:ByteArray) (p1:ByteArray):Nat→Int→Option ByteArray
  | 0,_=>none
  | n+1,a0=>Sf p0 p1 (Q0 p0 p1 n) a0
def Gr (F:Nat) (p0:ByteArray) (p1:ByteArray):Option ByteArray :=
  Q0 p0 p1 F 0
def Jr (F:Nat) (p0:sift_reader) (k1:(Int→Option sift_reader)) (a3:Int):Option sift_reader :=
  (Jk p0.s a3 ((p0.s.size:Nat):Int)).bind fun a4 =>
  (Gr F a4 (⟨#[32,9,10,13]⟩:ByteArray)).bind fun a8 =>
  (ck (a3+((a8.size:Nat):Int))).bind fun a0 =>
  bif (a0==((p0.s.size:Nat):Int)) then (bif (bif (a0==((p0.s.size:Nat):Int)) then true else (0 != 35)) then (some (sift_reader.mk p0.s a0 p0.token p0.from_)) else ((Jk p0.s a0 ((p0.s.size:Nat):Int)).bind fun a1 =>
  bif (decide ((Bn a1 10)≥0)) then ((ck (a0+(Bn a1 10))).bind fun a6 =>
  k1 a6) else (k1 ((p0.s.size:Nat):Int)))) else ((Qn p0.s a0).bind fun a5 =>
  bif (bif (a0==((p0.s.size:Nat):Int)) then true else (a5 != 35)) then (some (sift_reader.mk p0.s a0 p0.token p0.from_)) else ((Jk p0.s a0 ((p0.s.size:Nat):Int)).bind fun a2 =>
  bif (decide ((Bn a2 10)≥0)) then ((ck (a0+(Bn a2 10))).bind fun a7 =>
  k1 a7) else (k1 ((p0.s.size:Nat):Int))))
def Ft (F:Nat) (p0:sift_reader):Nat→Int→Option sift_reader
  | 0,_=>none
  | n+1,a0=>Jr F p0 (Ft F p0 n) a0
def Jg (F:Nat) (p0:sift_reader):Option sift_reader :=
  Ft F p0 F p0.at_
def Dp (F:Nat) (p0:ByteArray) (p1:ByteArray):Option Bool :=
  bif (decide (((p0.size:Nat):Int)≥((p1.size:Nat):Int))) then ((Jk p0 0 ((p1.size:Nat):Int)).bind fun s2 =>
  some (sEq s2 p1)) else (some false)
def Bg (F:Nat) (p0:ByteArray) (p1:ByteArray):Option Bool :=
  (Dp F p0 p1).bind fun y1 =>
  some y1
def An (y4:sift_reader) (a0:ByteArray):Option sift_reader :=
  (ck (y4.at_+((a0.size:Nat):Int))).bind fun a1 =>
  some (sift_reader.mk y4.s a1 a0 y4.at_)
def Bt (a0:sift_reader) (a1:ByteArray):Option sift_reader :=
  (ck (a0.at_+((a1.size:Nat):Int))).bind fun a2 =>
  some (sift_reader.mk a0.s a2 a1 a0.at_)
def Ba (F:Nat) (p0:sift_reader):Option sift_reader :=
  bif (!(sEq p0.token (⟨#[]⟩:ByteArray))) then ((Jk p0.token 0 1).bind fun s2 =>
  (B0 F (⟨#[48,49,50,51,52,53,54,55,56,57]⟩:ByteArray) s2).bind fun y3 =>
  (Jg F p0).bind fun y4 =>
  (Jk y4.s y4.at_ ((y4.s.size:Nat):Int)).bind fun s8 =>
  bif (sEq s8 (⟨#[]⟩:ByteArray)) then (An y4 (⟨#[]⟩:ByteArray)) else (bif y3 then (bif (y4.at_==p0.at_) then ((Jk s8 0 1).bind fun aI =>
  (B0 F (⟨#[97,98,99,100,101,102,103,104,105,106,107,108,109,110,111,112,113,114,115,116,117,118,119,120,121,122,48,49,50,51,52,53,54,55,56,57]⟩:ByteArray) aI).bind fun b7 =>
  bif b7 then (An y4 (⟨#[]⟩:ByteArray)) else ((Jk s8 0 1).bind fun aJ =>
  (B0 F (⟨#[97,98,99,100,101,102,103,104,105,106,107,108,109,110,111,112,113,114,115,116,117,118,119,120,121,122]⟩:ByteArray) aJ).bind fun b8 =>
  bif b8 then ((Gr F s8 (⟨#[97,98,99,100,101,102,103,104,105,106,107,108,109,110,111,112,113,114,115,116,117,118,119,120,121,122,48,49,50,51,52,53,54,55,56,57,95]⟩:ByteArray)).bind fun b9 =>
  An y4 b9) else ((Qn s8 (0:Int)).bind fun aW =>
  bif (aW==48) then (An y4 (⟨#[48]⟩:ByteArray)) else ((Jk s8 0 1).bind fun aK =>
  (B0 F (⟨#[48,49,50,51,52,53,54,55,56,57]⟩:ByteArray) aK).bind fun bA =>
  bif bA then ((Gr F s8 (⟨#[48,49,50,51,52,53,54,55,56,57]⟩:ByteArray)).bind fun bB =>
  An y4 bB) else ((Bg F s8 (⟨#[60,61]⟩:ByteArray)).bind fun a3 =>
  (gd ((a3==false&&true)) (Bg F s8 (⟨#[62,61]⟩:ByteArray)) default).bind fun a8 =>
  (gd (((bif a3 then true else a8)==false&&true)) (Bg F s8 (⟨#[33,61]⟩:ByteArray)) default).bind fun bC =>
  bif (bif (bif a3 then true else a8) then true else bC) then ((Jk s8 0 2).bind fun aL =>
  An y4 aL) else ((Jk s8 0 1).bind fun aM =>
  (B0 F (⟨#[60,62,61,43,45,40,41,58,59]⟩:ByteArray) aM).bind fun bD =>
  bif bD then ((Jk s8 0 1).bind fun aN =>
  An y4 aN) else (An y4 (⟨#[]⟩:ByteArray)))))))) else ((Jk s8 0 1).bind fun aO =>
  (B0 F (⟨#[97,98,99,100,101,102,103,104,105,106,107,108,109,110,111,112,113,114,115,116,117,118,119,120,121,122]⟩:ByteArray) aO).bind fun bE =>
  bif bE then ((Gr F s8 (⟨#[97,98,99,100,101,102,103,104,105,106,107,108,109,110,111,112,113,114,115,116,117,118,119,120,121,122,48,49,50,51,52,53,54,55,56,57,95]⟩:ByteArray)).bind fun bF =>
  An y4 bF) else ((Qn s8 (0:Int)).bind fun aX =>
  bif (aX==48) then (An y4 (⟨#[48]⟩:ByteArray)) else ((Jk s8 0 1).bind fun aP =>
  (B0 F (⟨#[48,49,50,51,52,53,54,55,56,57]⟩:ByteArray) aP).bind fun bG =>
  bif bG then ((Gr F s8 (⟨#[48,49,50,51,52,53,54,55,56,57]⟩:ByteArray)).bind fun bH =>
  An y4 bH) else ((Bg F s8 (⟨#[60,61]⟩:ByteArray)).bind fun a4 =>
  (gd ((a4==false&&true)) (Bg F s8 (⟨#[62,61]⟩:ByteArray)) default).bind fun a9 =>
  (gd (((bif a4 then true else a9)==false&&true)) (Bg F s8 (⟨#[33,61]⟩:ByteArray)) default).bind fun bI =>
  bif (bif (bif a4 then true else a9) then true else bI) then ((Jk s8 0 2).bind fun aQ =>
  An y4 aQ) else ((Jk s8 0 1).bind fun aR =>
  (B0 F (⟨#[60,62,61,43,45,40,41,58,59]⟩:ByteArray) aR).bind fun bJ =>
  bif bJ then ((Jk s8 0 1).bind fun aS =>
  An y4 aS) else (An y4 (⟨#[]⟩:ByteArray)))))))) else ((Jk s8 0 1).bind fun aT =>
  (B0 F (⟨#[97,98,99,100,101,102,103,104,105,106,107,108,109,110,111,112,113,114,115,116,117,118,119,120,121,122]⟩:ByteArray) aT).bind fun bK =>
  bif bK then ((Gr F s8 (⟨#[97,98,99,100,101,102,103,104,105,106,107,108,109,110,111,112,113,114,115,116,117,118,119,120,121,122,48,49,50,51,52,53,54,55,56,57,95]⟩:ByteArray)).bind fun bL =>
  An y4 bL) else ((Qn s8 (0:Int)).bind fun aY =>
  bif (aY==48) then (An y4 (⟨#[48]⟩:ByteArray)) else ((Jk s8 0 1).bind fun aU =>
  (B0 F (⟨#[48,49,50,51,52,53,54,55,56,57]⟩:ByteArray) aU).bind fun bM =>
  bif bM then ((Gr F s8 (⟨#[48,49,50,51,52,53,54,55,56,57]⟩:ByteArray)).bind fun bN =>
  An y4 bN) else ((Bg F s8 (⟨#[60,61]⟩:ByteArray)).bind fun a5 =>
  (gd ((a5==false&&true)) (Bg F s8 (⟨#[62,61]⟩:ByteArray)) default).bind fun a6 =>
  (gd (((bif a5 then true else a6)==false&&true)) (Bg F s8 (⟨#[33,61]⟩:ByteArray)) default).bind fun aZ =>
  bif (bif (bif a5 then true else a6) then true else aZ) then ((Jk s8 0 2).bind fun aA =>
  An y4 aA) else ((Jk s8 0 1).bind fun aB =>
  (B0 F (⟨#[60,62,61,43,45,40,41,58,59]⟩:ByteArray) aB).bind fun b0 =>
  bif b0 then ((Jk s8 0 1).bind fun aC =>
  An y4 aC) else (An y4 (⟨#[]⟩:ByteArray))))))))) else ((Jg F p0).bind fun a1 =>
  (Jk a1.s a1.at_ ((a1.s.size:Nat):Int)).bind fun a0 =>
  bif (sEq a0 (⟨#[]⟩:ByteArray)) then (Bt a1 (⟨#[]⟩:ByteArray)) else ((Jk a0 0 1).bind fun aD =>
  (B0 F (⟨#[97,98,99,100,101,102,103,104,105,106,107,108,109,110,111,112,113,114,115,116,117,118,119,120,121,122]⟩:ByteArray) aD).bind fun b1 =>
  bif b1 then ((Gr F a0 (⟨#[97,98,99,100,101,102,103,104,105,106,107,108,109,110,111,112,113,114,115,116,117,118,119,120,121,122,48,49,50,51,52,53,54,55,56,57,95]⟩:ByteArray)).bind fun b2 =>
  Bt a1 b2) else ((Qn a0 (0:Int)).bind fun aV =>
  bif (aV==48) then (Bt a1 (⟨#[48]⟩:ByteArray)) else ((Jk a0 0 1).bind fun aE =>
  (B0 F (⟨#[48,49,50,51,52,53,54,55,56,57]⟩:ByteArray) aE).bind fun b3 =>
  bif b3 then ((Gr F a0 (⟨#[48,49,50,51,52,53,54,55,56,57]⟩:ByteArray)).bind fun b4 =>
  Bt a1 b4) else ((Bg F a0 (⟨#[60,61]⟩:ByteArray)).bind fun a2 =>
  (gd ((a2==false&&true)) (Bg F a0 (⟨#[62,61]⟩:ByteArray)) default).bind fun a7 =>
  (gd (((bif a2 then true else a7)==false&&true)) (Bg F a0 (⟨#[33,61]⟩:ByteArray)) default).bind fun b5 =>
  bif (bif (bif a2 then true else a7) then true else b5) then ((Jk a0 0 2).bind fun aF =>
  Bt a1 aF) else ((Jk a0 0 1).bind fun aG =>
  (B0 F (⟨#[60,62,61,43,45,40,41,58,59]⟩:ByteArray) aG).bind fun b6 =>
  bif b6 then ((Jk a0 0 1).bind fun aH =>
  Bt a1 aH) else (Bt a1 (⟨#[]⟩:ByteArray))))))))
def Cm (F:Nat) (p0:sift_reader):Option (Except (Value×sift_reader) sift_reader) :=
  some (.error (.iface 146 (.int .i64 p0.from_),p0))
def Jh (F:Nat) (p0:sift_reader) (p1:ByteArray):Option (Bool×sift_reader) :=
  bif (!(sEq p0.token p1)) then (some (false,p0)) else ((Ba F p0).bind fun y1 =>
  some (true,y1))
def Fq (F:Nat) (p0:sift_reader) (p1:ByteArray):Option (Except (Value×sift_reader) sift_reader) :=
  (Jh F p0 p1).bind fun y1 =>
  bif (!y1.1) then ((Cm F (sift_reader.mk y1.2.s y1.2.at_ y1.2.token y1.2.from_)).bind fun y5 =>
  exc y5 (fun e7=>some (.error (e7.1,(sift_reader.mk e7.2.s e7.2.at_ e7.2.token e7.2.from_)))) fun y6 =>
  some (.ok y6)) else (some (.ok (sift_reader.mk y1.2.s y1.2.at_ y1.2.token y1.2.from_)))
def H4 (F:Nat) (a0:ByteArray) (a2:Int) (a1:ByteArray) (a3:Int) (a4:Int):Option (Except (Value×sift_reader) (Int×sift_reader)) :=
  (Ba F (sift_reader.mk a0 a2 a1 a3)).bind fun a5 =>
  some (.ok (a4,a5))
def Eg (a2:Int) (k3:(ByteArray→Int→ByteArray→Int→Int→Int→Option (Except (Value×sift_reader) (Int×sift_reader)))) (a0:ByteArray) (a3:Int) (a1:ByteArray) (a4:Int) (a5:Int):Option (Except (Value×sift_reader) (Int×sift_reader)) :=
  (ck (a2+1)).bind fun a6 =>
  k3 a0 a3 a1 a4 a6 a5
def H3 (F:Nat) (p1:Int) (a8:(List Int)) (k3:(ByteArray→Int→ByteArray→Int→Int→Int→Option (Except (Value×sift_reader) (Int×sift_reader)))) (a3:ByteArray) (a5:Int) (a4:ByteArray) (a6:Int) (a1:Int) (a9:Int):Option (Except (Value×sift_reader) (Int×sift_reader)) :=
  bif (decide (a1<((a8.length:Nat):Int))) then ((getI a8 a1).bind fun aA =>
  (ck (10*a9)).bind fun aB =>
  (ck (IntKind.u8.wrap (aA-48))).bind fun aC =>
  (ck (aB+aC)).bind fun a7 =>
  bif (decide (a7>p1)) then ((Cm F (sift_reader.mk a3 a5 a4 a6)).bind fun aD =>
  exc aD (fun a0=>some (.error (a0.1,(sift_reader.mk a0.2.s a0.2.at_ a0.2.token a0.2.from_)))) fun a2 =>
  Eg a1 k3 a2.s a2.at_ a2.token a2.from_ a7) else (Eg a1 k3 a3 a5 a4 a6 a7)) else (H4 F a3 a5 a4 a6 a9)
def Eh (F:Nat) (p1:Int) (a0:(List Int)):Nat→ByteArray→Int→ByteArray→Int→Int→Int→Option (Except (Value×sift_reader) (Int×sift_reader))
  | 0,_,_,_,_,_,_=>none
  | n+1,a1,a3,a2,a4,a5,a6=>H3 F p1 a0 (Eh F p1 a0 n) a1 a3 a2 a4 a5 a6
def Di (F:Nat) (p1:Int) (a2:ByteArray) (a3:Int) (a0:ByteArray) (a4:Int):Option (Except (Value×sift_reader) (Int×sift_reader)) :=
  (s2b a0).bind fun a1 =>
  Eh F p1 a1 F a2 a3 a0 a4 0 0
def Ee (F:Nat) (p0:sift_reader) (p1:Int):Option (Except (Value×sift_reader) (Int×sift_reader)) :=
  bif (sEq p0.token (⟨#[]⟩:ByteArray)) then ((Cm F p0).bind fun a5 =>
  exc a5 (fun a0=>some (.error (a0.1,(sift_reader.mk a0.2.s a0.2.at_ a0.2.token a0.2.from_)))) fun a2 =>
  Di F p1 a2.s a2.at_ a2.token a2.from_) else ((Jk p0.token 0 1).bind fun a4 =>
  (B0 F (⟨#[48,49,50,51,52,53,54,55,56,57]⟩:ByteArray) a4).bind fun a6 =>
  bif (!a6) then ((Cm F p0).bind fun a7 =>
  exc a7 (fun a1=>some (.error (a1.1,(sift_reader.mk a1.2.s a1.2.at_ a1.2.token a1.2.from_)))) fun a3 =>
  Di F p1 a3.s a3.at_ a3.token a3.from_) else (Di F p1 p0.s p0.at_ p0.token p0.from_))
abbrev Ac:=sift_reader→Option (Except (Value×sift_reader) (sift_Node×sift_reader))
def Ff (F:Nat) (s149_:Ac) (a5:Int) (a6:Int) (a7:Int) (a8:Int) (a2:(List sift_Node)) (a3:ByteArray) (a9:Int) (a4:ByteArray) (aA:Int) (k1:(Int→Int→Int→Int→(List sift_Node)→ByteArray→Int→ByteArray→Int→Option (Except (Value×sift_reader) (sift_Node×sift_reader)))) (aB:Int):Option (Except (Value×sift_reader) (sift_Node×sift_reader)) :=
  bif (aB==0) then (some (.ok ((sift_Node.mk a5 a6 a7 a8 a2),(sift_reader.mk a3 a9 a4 aA)))) else ((Ba F (sift_reader.mk a3 a9 a4 aA)).bind fun aC =>
  (s149_ aC).bind fun aD =>
  exc aD (fun a1=>some (.error (a1.1,(sift_reader.mk a1.2.s a1.2.at_ a1.2.token a1.2.from_)))) fun a0 =>
  k1 aB 0 0 0 ([(sift_Node.mk a5 a6 a7 a8 a2),(sift_Node.mk a0.1.Op a0.1.Value_ a0.1.Rays a0.1.Gates a0.1.Args)]) a0.2.s a0.2.at_ a0.2.token a0.2.from_)
def Dc (a0:Int) (k3:(Int→Int→Option (Except (Value×sift_reader) (sift_Node×sift_reader)))) (a1:Int):Option (Except (Value×sift_reader) (sift_Node×sift_reader)) :=
  (ck (a0+1)).bind fun a2 =>
  k3 a2 a1
def Fe (F:Nat) (s149_:Ac) (p2:(List Int)) (a7:Int) (a8:Int) (a9:Int) (aA:Int) (a4:(List sift_Node)) (a5:ByteArray) (aB:Int) (a1:ByteArray) (aC:Int) (k1:(Int→Int→Int→Int→(List sift_Node)→ByteArray→Int→ByteArray→Int→Option (Except (Value×sift_reader) (sift_Node×sift_reader)))) (k3:(Int→Int→Option (Except (Value×sift_reader) (sift_Node×sift_reader)))) (a0:Int) (a3:Int):Option (Except (Value×sift_reader) (sift_Node×sift_reader)) :=
  bif (decide (a0<((p2.length:Nat):Int))) then ((getI p2 a0).bind fun a2 =>
  (Wu B8 a2).bind fun a6 =>
  bif (sEq a1 a6) then (Dc a0 k3 a2) else (Dc a0 k3 a3)) else (Ff F s149_ a7 a8 a9 aA a4 a5 aB a1 aC k1 a3)
def De (F:Nat) (s149_:Ac) (p2:(List Int)) (a3:Int) (a4:Int) (a5:Int) (a6:Int) (a0:(List sift_Node)) (a1:ByteArray) (a7:Int) (a2:ByteArray) (a8:Int) (k1:(Int→Int→Int→Int→(List sift_Node)→ByteArray→Int→ByteArray→Int→Option (Except (Value×sift_reader) (sift_Node×sift_reader)))):Nat→Int→Int→Option (Except (Value×sift_reader) (sift_Node×sift_reader))
  | 0,_,_=>none
  | n+1,a9,aA=>Fe F s149_ p2 a3 a4 a5 a6 a0 a1 a7 a2 a8 k1 (De F s149_ p2 a3 a4 a5 a6 a0 a1 a7 a2 a8 k1 n) a9 aA
def Fc (F:Nat) (s149_:Ac) (p2:(List Int)) (k1:(Int→Int→Int→Int→(List sift_Node)→ByteArray→Int→ByteArray→Int→Option (Except (Value×sift_reader) (sift_Node×sift_reader)))) (a3:Int) (a4:Int) (a5:Int) (a6:Int) (a0:(List sift_Node)) (a1:ByteArray) (a7:Int) (a2:ByteArray) (a8:Int):Option (Except (Value×sift_reader) (sift_Node×sift_reader)) :=
  De F s149_ p2 a3 a4 a5 a6 a0 a1 a7 a2 a8 k1 F 0 0
def Dd (F:Nat) (s149_:Ac) (p2:(List Int)):Nat→Int→Int→Int→Int→(List sift_Node)→ByteArray→Int→ByteArray→Int→Option (Except (Value×sift_reader) (sift_Node×sift_reader))
  | 0,_,_,_,_,_,_,_,_,_=>none
  | n+1,a3,a4,a5,a6,a0,a1,a7,a2,a8=>Fc F s149_ p2 (Dd F s149_ p2 n) a3 a4 a5 a6 a0 a1 a7 a2 a8
def Gl (F:Nat) (s149_:Ac) (p0:sift_reader) (p2:(List Int)):Option (Except (Value×sift_reader) (sift_Node×sift_reader)) :=
  (s149_ p0).bind fun y5 =>
  exc y5 (fun e7=>some (.error (e7.1,(sift_reader.mk e7.2.s e7.2.at_ e7.2.token e7.2.from_)))) fun y6 =>
  Dd F s149_ p2 F y6.1.Op y6.1.Value_ y6.1.Rays y6.1.Gates y6.1.Args y6.2.s y6.2.at_ y6.2.token y6.2.from_
def Gd (F:Nat) (s149_:Ac) (c0_:sift_reader):Option (Except (Value×sift_reader) (sift_Node×sift_reader)) :=
  (Gl F s149_ c0_ ([4])).bind fun y7 =>
  exc y7 (fun e9=>some (.error (e9.1,(sift_reader.mk e9.2.s e9.2.at_ e9.2.token e9.2.from_)))) fun y8 =>
  some (.ok ((sift_Node.mk y8.1.Op y8.1.Value_ y8.1.Rays y8.1.Gates y8.1.Args),(sift_reader.mk y8.2.s y8.2.at_ y8.2.token y8.2.from_)))
def Fb (F:Nat) (s149_:Ac) (a5:Int) (a6:Int) (a7:Int) (a8:Int) (a2:(List sift_Node)) (a3:ByteArray) (a9:Int) (a4:ByteArray) (aA:Int) (k1:(Int→Int→Int→Int→(List sift_Node)→ByteArray→Int→ByteArray→Int→Option (Except (Value×sift_reader) (sift_Node×sift_reader)))) (aB:Int):Option (Except (Value×sift_reader) (sift_Node×sift_reader)) :=
  bif (aB==0) then (some (.ok ((sift_Node.mk a5 a6 a7 a8 a2),(sift_reader.mk a3 a9 a4 aA)))) else ((Ba F (sift_reader.mk a3 a9 a4 aA)).bind fun aC =>
  (Gd F s149_ aC).bind fun aD =>
  exc aD (fun a1=>some (.error (a1.1,(sift_reader.mk a1.2.s a1.2.at_ a1.2.token a1.2.from_)))) fun a0 =>
  k1 aB 0 0 0 ([(sift_Node.mk a5 a6 a7 a8 a2),(sift_Node.mk a0.1.Op a0.1.Value_ a0.1.Rays a0.1.Gates a0.1.Args)]) a0.2.s a0.2.at_ a0.2.token a0.2.from_)
def D9 (a0:Int) (k3:(Int→Int→Option (Except (Value×sift_reader) (sift_Node×sift_reader)))) (a1:Int):Option (Except (Value×sift_reader) (sift_Node×sift_reader)) :=
  (ck (a0+1)).bind fun a2 =>
  k3 a2 a1
def Fa (F:Nat) (s149_:Ac) (p2:(List Int)) (a7:Int) (a8:Int) (a9:Int) (aA:Int) (a4:(List sift_Node)) (a5:ByteArray) (aB:Int) (a1:ByteArray) (aC:Int) (k1:(Int→Int→Int→Int→(List sift_Node)→ByteArray→Int→ByteArray→Int→Option (Except (Value×sift_reader) (sift_Node×sift_reader)))) (k3:(Int→Int→Option (Except (Value×sift_reader) (sift_Node×sift_reader)))) (a0:Int) (a3:Int):Option (Except (Value×sift_reader) (sift_Node×sift_reader)) :=
  bif (decide (a0<((p2.length:Nat):Int))) then ((getI p2 a0).bind fun a2 =>
  (Wu B8 a2).bind fun a6 =>
  bif (sEq a1 a6) then (D9 a0 k3 a2) else (D9 a0 k3 a3)) else (Fb F s149_ a7 a8 a9 aA a4 a5 aB a1 aC k1 a3)
def Db (F:Nat) (s149_:Ac) (p2:(List Int)) (a3:Int) (a4:Int) (a5:Int) (a6:Int) (a0:(List sift_Node)) (a1:ByteArray) (a7:Int) (a2:ByteArray) (a8:Int) (k1:(Int→Int→Int→Int→(List sift_Node)→ByteArray→Int→ByteArray→Int→Option (Except (Value×sift_reader) (sift_Node×sift_reader)))):Nat→Int→Int→Option (Except (Value×sift_reader) (sift_Node×sift_reader))
  | 0,_,_=>none
  | n+1,a9,aA=>Fa F s149_ p2 a3 a4 a5 a6 a0 a1 a7 a2 a8 k1 (Db F s149_ p2 a3 a4 a5 a6 a0 a1 a7 a2 a8 k1 n) a9 aA
def F9 (F:Nat) (s149_:Ac) (p2:(List Int)) (k1:(Int→Int→Int→Int→(List sift_Node)→ByteArray→Int→ByteArray→Int→Option (Except (Value×sift_reader) (sift_Node×sift_reader)))) (a3:Int) (a4:Int) (a5:Int) (a6:Int) (a0:(List sift_Node)) (a1:ByteArray) (a7:Int) (a2:ByteArray) (a8:Int):Option (Except (Value×sift_reader) (sift_Node×sift_reader)) :=
  Db F s149_ p2 a3 a4 a5 a6 a0 a1 a7 a2 a8 k1 F 0 0
def Da (F:Nat) (s149_:Ac) (p2:(List Int)):Nat→Int→Int→Int→Int→(List sift_Node)→ByteArray→Int→ByteArray→Int→Option (Except (Value×sift_reader) (sift_Node×sift_reader))
  | 0,_,_,_,_,_,_,_,_,_=>none
  | n+1,a3,a4,a5,a6,a0,a1,a7,a2,a8=>F9 F s149_ p2 (Da F s149_ p2 n) a3 a4 a5 a6 a0 a1 a7 a2 a8
def Gk (F:Nat) (s149_:Ac) (p0:sift_reader) (p2:(List Int)):Option (Except (Value×sift_reader) (sift_Node×sift_reader)) :=
  (Gd F s149_ p0).bind fun y5 =>
  exc y5 (fun e7=>some (.error (e7.1,(sift_reader.mk e7.2.s e7.2.at_ e7.2.token e7.2.from_)))) fun y6 =>
  Da F s149_ p2 F y6.1.Op y6.1.Value_ y6.1.Rays y6.1.Gates y6.1.Args y6.2.s y6.2.at_ y6.2.token y6.2.from_
def Je (F:Nat) (s149_:Ac) (p0:sift_reader):Option (Except (Value×sift_reader) (sift_Node×sift_reader)) :=
  (Gk F s149_ p0 ([5])).bind fun a2 =>
  exc a2 (fun a1=>some (.error (a1.1,(sift_reader.mk a1.2.s a1.2.at_ a1.2.token a1.2.from_)))) fun a0 =>
  some (.ok ((sift_Node.mk a0.1.Op a0.1.Value_ a0.1.Rays a0.1.Gates a0.1.Args),(sift_reader.mk a0.2.s a0.2.at_ a0.2.token a0.2.from_)))
def Gc (F:Nat) (s149_:Ac) (p0:sift_reader) (p1:Int):Option (Except (Value×sift_reader) (sift_Node×sift_reader)) :=
  (Ee F p0 3).bind fun y2 =>
  exc y2 (fun e4=>some (.error (e4.1,(sift_reader.mk e4.2.s e4.2.at_ e4.2.token e4.2.from_)))) fun y3 =>
  (Ee F (sift_reader.mk y3.2.s y3.2.at_ y3.2.token y3.2.from_) 3).bind fun a4 =>
  exc a4 (fun a1=>some (.error (a1.1,(sift_reader.mk a1.2.s a1.2.at_ a1.2.token a1.2.from_)))) fun a3 =>
  (s149_ (sift_reader.mk a3.2.s a3.2.at_ a3.2.token a3.2.from_)).bind fun a5 =>
  exc a5 (fun a2=>some (.error (a2.1,(sift_reader.mk a2.2.s a2.2.at_ a2.2.token a2.2.from_)))) fun a0 =>
  some (.ok ((sift_Node.mk p1 0 y3.1 a3.1 ([(sift_Node.mk a0.1.Op a0.1.Value_ a0.1.Rays a0.1.Gates a0.1.Args)])),(sift_reader.mk a0.2.s a0.2.at_ a0.2.token a0.2.from_)))
def Jf (F:Nat) (s149_:Ac) (p0:sift_reader):Option (Except (Value×sift_reader) (sift_Node×sift_reader)) :=
  (Kx F p0.token 15 25).bind fun y2 =>
  bif (y2==0) then ((Ee F p0 1000000000).bind fun y3 =>
  exc y3 (fun e5=>some (.error (e5.1,(sift_reader.mk e5.2.s e5.2.at_ e5.2.token e5.2.from_)))) fun y4 =>
  some (.ok ((sift_Node.mk 14 y4.1 0 0 ([]:(List sift_Node))),(sift_reader.mk y4.2.s y4.2.at_ y4.2.token y4.2.from_)))) else (bif (y2==25) then ((Ba F p0).bind fun a2 =>
  (Gc F s149_ a2 25).bind fun a3 =>
  exc a3 (fun a1=>some (.error (a1.1,(sift_reader.mk a1.2.s a1.2.at_ a1.2.token a1.2.from_)))) fun a0 =>
  some (.ok ((sift_Node.mk a0.1.Op a0.1.Value_ a0.1.Rays a0.1.Gates a0.1.Args),(sift_reader.mk a0.2.s a0.2.at_ a0.2.token a0.2.from_)))) else ((Ba F p0).bind fun a4 =>
  some (.ok ((sift_Node.mk y2 0 0 0 ([]:(List sift_Node))),a4))))
def Fi (F:Nat) (s149_:Ac) (a5:Int) (a6:Int) (a7:Int) (a8:Int) (a2:(List sift_Node)) (a3:ByteArray) (a9:Int) (a4:ByteArray) (aA:Int) (k1:(Int→Int→Int→Int→(List sift_Node)→ByteArray→Int→ByteArray→Int→Option (Except (Value×sift_reader) (sift_Node×sift_reader)))) (aB:Int):Option (Except (Value×sift_reader) (sift_Node×sift_reader)) :=
  bif (aB==0) then (some (.ok ((sift_Node.mk a5 a6 a7 a8 a2),(sift_reader.mk a3 a9 a4 aA)))) else ((Ba F (sift_reader.mk a3 a9 a4 aA)).bind fun aC =>
  (Jf F s149_ aC).bind fun aD =>
  exc aD (fun a1=>some (.error (a1.1,(sift_reader.mk a1.2.s a1.2.at_ a1.2.token a1.2.from_)))) fun a0 =>
  k1 aB 0 0 0 ([(sift_Node.mk a5 a6 a7 a8 a2),(sift_Node.mk a0.1.Op a0.1.Value_ a0.1.Rays a0.1.Gates a0.1.Args)]) a0.2.s a0.2.at_ a0.2.token a0.2.from_)
def Df (a0:Int) (k3:(Int→Int→Option (Except (Value×sift_reader) (sift_Node×sift_reader)))) (a1:Int):Option (Except (Value×sift_reader) (sift_Node×sift_reader)) :=
  (ck (a0+1)).bind fun a2 =>
  k3 a2 a1
def Fh (F:Nat) (s149_:Ac) (p2:(List Int)) (a7:Int) (a8:Int) (a9:Int) (aA:Int) (a4:(List sift_Node)) (a5:ByteArray) (aB:Int) (a1:ByteArray) (aC:Int) (k1:(Int→Int→Int→Int→(List sift_Node)→ByteArray→Int→ByteArray→Int→Option (Except (Value×sift_reader) (sift_Node×sift_reader)))) (k3:(Int→Int→Option (Except (Value×sift_reader) (sift_Node×sift_reader)))) (a0:Int) (a3:Int):Option (Except (Value×sift_reader) (sift_Node×sift_reader)) :=
  bif (decide (a0<((p2.length:Nat):Int))) then ((getI p2 a0).bind fun a2 =>
  (Wu B8 a2).bind fun a6 =>
  bif (sEq a1 a6) then (Df a0 k3 a2) else (Df a0 k3 a3)) else (Fi F s149_ a7 a8 a9 aA a4 a5 aB a1 aC k1 a3)
def Dh (F:Nat) (s149_:Ac) (p2:(List Int)) (a3:Int) (a4:Int) (a5:Int) (a6:Int) (a0:(List sift_Node)) (a1:ByteArray) (a7:Int) (a2:ByteArray) (a8:Int) (k1:(Int→Int→Int→Int→(List sift_Node)→ByteArray→Int→ByteArray→Int→Option (Except (Value×sift_reader) (sift_Node×sift_reader)))):Nat→Int→Int→Option (Except (Value×sift_reader) (sift_Node×sift_reader))
  | 0,_,_=>none
  | n+1,a9,aA=>Fh F s149_ p2 a3 a4 a5 a6 a0 a1 a7 a2 a8 k1 (Dh F s149_ p2 a3 a4 a5 a6 a0 a1 a7 a2 a8 k1 n) a9 aA
def Fg (F:Nat) (s149_:Ac) (p2:(List Int)) (k1:(Int→Int→Int→Int→(List sift_Node)→ByteArray→Int→ByteArray→Int→Option (Except (Value×sift_reader) (sift_Node×sift_reader)))) (a3:Int) (a4:Int) (a5:Int) (a6:Int) (a0:(List sift_Node)) (a1:ByteArray) (a7:Int) (a2:ByteArray) (a8:Int):Option (Except (Value×sift_reader) (sift_Node×sift_reader)) :=
  Dh F s149_ p2 a3 a4 a5 a6 a0 a1 a7 a2 a8 k1 F 0 0
def Dg (F:Nat) (s149_:Ac) (p2:(List Int)):Nat→Int→Int→Int→Int→(List sift_Node)→ByteArray→Int→ByteArray→Int→Option (Except (Value×sift_reader) (sift_Node×sift_reader))
  | 0,_,_,_,_,_,_,_,_,_=>none
  | n+1,a3,a4,a5,a6,a0,a1,a7,a2,a8=>Fg F s149_ p2 (Dg F s149_ p2 n) a3 a4 a5 a6 a0 a1 a7 a2 a8
def E7 (F:Nat) (s149_:Ac) (p0:sift_reader) (p2:(List Int)):Option (Except (Value×sift_reader) (sift_Node×sift_reader)) :=
  (Jf F s149_ p0).bind fun y5 =>
  exc y5 (fun e7=>some (.error (e7.1,(sift_reader.mk e7.2.s e7.2.at_ e7.2.token e7.2.from_)))) fun y6 =>
  Dg F s149_ p2 F y6.1.Op y6.1.Value_ y6.1.Rays y6.1.Gates y6.1.Args y6.2.s y6.2.at_ y6.2.token y6.2.from_
def Ek (F:Nat) (s149_:Ac) (a2:(sift_Node×sift_reader)) (a9:Int) (a3:ByteArray) (a5:Int) (a4:ByteArray) (a6:Int):Option (Except (Value×sift_reader) (sift_Node×sift_reader)) :=
  (Ba F (sift_reader.mk a3 a5 a4 a6)).bind fun a7 =>
  (E7 F s149_ a7 ([26,27])).bind fun a8 =>
  exc a8 (fun a1=>some (.error (a1.1,(sift_reader.mk a1.2.s a1.2.at_ a1.2.token a1.2.from_)))) fun a0 =>
  some (.ok ((sift_Node.mk a9 0 0 0 ([(sift_Node.mk a2.1.Op a2.1.Value_ a2.1.Rays a2.1.Gates a2.1.Args),(sift_Node.mk a0.1.Op a0.1.Value_ a0.1.Rays a0.1.Gates a0.1.Args)])),(sift_reader.mk a0.2.s a0.2.at_ a0.2.token a0.2.from_)))
def Ej (F:Nat) (s149_:Ac) (p0:sift_reader) (y2:Int) (aB:Bool):Option (Except (Value×sift_reader) (sift_Node×sift_reader)) :=
  bif aB then ((Ba F p0).bind fun aD =>
  (Gc F s149_ aD y2).bind fun aE =>
  exc aE (fun a5=>some (.error (a5.1,(sift_reader.mk a5.2.s a5.2.at_ a5.2.token a5.2.from_)))) fun a1 =>
  some (.ok ((sift_Node.mk a1.1.Op a1.1.Value_ a1.1.Rays a1.1.Gates a1.1.Args),(sift_reader.mk a1.2.s a1.2.at_ a1.2.token a1.2.from_)))) else ((Jh F p0 (⟨#[40]⟩:ByteArray)).bind fun a2 =>
  bif a2.1 then ((Je F s149_ (sift_reader.mk a2.2.s a2.2.at_ a2.2.token a2.2.from_)).bind fun aF =>
  exc aF (fun a6=>some (.error (a6.1,(sift_reader.mk a6.2.s a6.2.at_ a6.2.token a6.2.from_)))) fun a3 =>
  (Fq F (sift_reader.mk a3.2.s a3.2.at_ a3.2.token a3.2.from_) (⟨#[41]⟩:ByteArray)).bind fun aG =>
  exc aG (fun a7=>some (.error (a7.1,(sift_reader.mk a7.2.s a7.2.at_ a7.2.token a7.2.from_)))) fun aH =>
  some (.ok ((sift_Node.mk a3.1.Op a3.1.Value_ a3.1.Rays a3.1.Gates a3.1.Args),aH))) else ((E7 F s149_ (sift_reader.mk a2.2.s a2.2.at_ a2.2.token a2.2.from_) ([26,27])).bind fun aI =>
  exc aI (fun a8=>some (.error (a8.1,(sift_reader.mk a8.2.s a8.2.at_ a8.2.token a8.2.from_)))) fun a0 =>
  (Kx F a0.2.token 8 13).bind fun aA =>
  bif (aA==0) then ((Cm F (sift_reader.mk a0.2.s a0.2.at_ a0.2.token a0.2.from_)).bind fun aC =>
  exc aC (fun a4=>some (.error (a4.1,(sift_reader.mk a4.2.s a4.2.at_ a4.2.token a4.2.from_)))) fun a9 =>
  Ek F s149_ a0 aA a9.s a9.at_ a9.token a9.from_) else (Ek F s149_ a0 aA a0.2.s a0.2.at_ a0.2.token a0.2.from_)))
def Ei (F:Nat) (s149_:Ac) (p0:sift_reader) (y2:Int) (c3:Bool):Option (Except (Value×sift_reader) (sift_Node×sift_reader)) :=
  bif c3 then ((Ba F p0).bind fun y4 =>
  some (.ok ((sift_Node.mk y2 0 0 0 ([]:(List sift_Node))),y4))) else (bif (y2==3) then ((Ba F p0).bind fun y8 =>
  (s149_ y8).bind fun a2 =>
  exc a2 (fun a1=>some (.error (a1.1,(sift_reader.mk a1.2.s a1.2.at_ a1.2.token a1.2.from_)))) fun a0 =>
  some (.ok ((sift_Node.mk 3 0 0 0 ([(sift_Node.mk a0.1.Op a0.1.Value_ a0.1.Rays a0.1.Gates a0.1.Args)])),(sift_reader.mk a0.2.s a0.2.at_ a0.2.token a0.2.from_)))) else (bif (y2==6) then (Ej F s149_ p0 y2 (y2==6)) else (Ej F s149_ p0 y2 (y2==7))))
def Kz (F:Nat) (s149_:Ac) (p0:sift_reader):Option (Except (Value×sift_reader) (sift_Node×sift_reader)) :=
  (Kx F p0.token 1 7).bind fun y2 =>
  bif (y2==1) then (Ei F s149_ p0 y2 (y2==1)) else (Ei F s149_ p0 y2 (y2==2))
def Fs:Nat→Ac
  | 0=>fun _=>none
  | F+1=>Kz F (Fs F)
def Ja (a1:ByteArray) (a3:Int) (a2:ByteArray) (a4:Int) (a0:(List sift_Rule)):Option (Except (Value×sift_reader) ((List sift_Rule)×sift_reader)) :=
  some (.ok (a0,(sift_reader.mk a1 a3 a2 a4)))
def Do (F:Nat) (a7:ByteArray) (a5:(List sift_Rule)) (k2:(ByteArray→Int→ByteArray→Int→(List sift_Rule)→Option (Except (Value×sift_reader) ((List sift_Rule)×sift_reader)))) (a8:ByteArray) (aA:Int) (a9:ByteArray) (aB:Int):Option (Except (Value×sift_reader) ((List sift_Rule)×sift_reader)) :=
  (Ba F (sift_reader.mk a8 aA a9 aB)).bind fun aC =>
  (Fq F aC (⟨#[58]⟩:ByteArray)).bind fun aD =>
  exc aD (fun a1=>some (.error (a1.1,(sift_reader.mk a1.2.s a1.2.at_ a1.2.token a1.2.from_)))) fun aE =>
  (Je F (Fs F) aE).bind fun aF =>
  exc aF (fun a2=>some (.error (a2.1,(sift_reader.mk a2.2.s a2.2.at_ a2.2.token a2.2.from_)))) fun a0 =>
  (Fq F (sift_reader.mk a0.2.s a0.2.at_ a0.2.token a0.2.from_) (⟨#[59]⟩:ByteArray)).bind fun aG =>
  exc aG (fun a3=>some (.error (a3.1,(sift_reader.mk a3.2.s a3.2.at_ a3.2.token a3.2.from_)))) fun a4 =>
  (apd 72 a5 ([(sift_Rule.mk a7 (sift_Node.mk a0.1.Op a0.1.Value_ a0.1.Rays a0.1.Gates a0.1.Args))])).bind fun a6 =>
  k2 a4.s a4.at_ a4.token a4.from_ a6
def J9 (F:Nat) (k2:(ByteArray→Int→ByteArray→Int→(List sift_Rule)→Option (Except (Value×sift_reader) ((List sift_Rule)×sift_reader)))) (a3:ByteArray) (a6:Int) (a0:ByteArray) (a4:Int) (a5:(List sift_Rule)):Option (Except (Value×sift_reader) ((List sift_Rule)×sift_reader)) :=
  bif (decide (a4<((a3.size:Nat):Int))) then (bif (sEq a0 (⟨#[]⟩:ByteArray)) then ((gd ((true==false&&true)) (sift_word F a0) default).bind fun aE =>
  (Cm F (sift_reader.mk a3 a6 a0 a4)).bind fun aB =>
  exc aB (fun a1=>some (.error (a1.1,(sift_reader.mk a1.2.s a1.2.at_ a1.2.token a1.2.from_)))) fun a7 =>
  Do F a0 a5 k2 a7.s a7.at_ a7.token a7.from_) else ((Jk a0 0 1).bind fun aA =>
  (B0 F (⟨#[97,98,99,100,101,102,103,104,105,106,107,108,109,110,111,112,113,114,115,116,117,118,119,120,121,122]⟩:ByteArray) aA).bind fun a9 =>
  (gd (((!a9)==false&&true)) (sift_word F a0) default).bind fun aC =>
  bif (bif (bif (!a9) then true else aC) then true else (decide (((a0.size:Nat):Int)>12))) then ((Cm F (sift_reader.mk a3 a6 a0 a4)).bind fun aD =>
  exc aD (fun a2=>some (.error (a2.1,(sift_reader.mk a2.2.s a2.2.at_ a2.2.token a2.2.from_)))) fun a8 =>
  Do F a0 a5 k2 a8.s a8.at_ a8.token a8.from_) else (Do F a0 a5 k2 a3 a6 a0 a4))) else (Ja a3 a6 a0 a4 a5)
def Fk (F:Nat):Nat→ByteArray→Int→ByteArray→Int→(List sift_Rule)→Option (Except (Value×sift_reader) ((List sift_Rule)×sift_reader))
  | 0,_,_,_,_,_=>none
  | n+1,a1,a3,a2,a4,a0=>J9 F (Fk F n) a1 a3 a2 a4 a0
def M3 (F:Nat) (p0:sift_reader):Option (Except (Value×sift_reader) ((List sift_Rule)×sift_reader)) :=
  (Ba F p0).bind fun a0 =>
  Fk F F a0.s a0.at_ a0.token a0.from_ ([])
def Kw (F:Nat) (p0:ByteArray):Option ((List sift_Rule)×Int×Int) :=
  bif (decide (((p0.size:Nat):Int)>65536)) then (some (([]:(List sift_Rule)),0,8)) else ((M3 F (sift_reader.mk p0 0 ByteArray.empty 0)).bind fun y5 =>
  exc y5 (fun e7=>(asI 146 .i64 e7.1).bind fun a1 =>
  some (([]:(List sift_Rule)),a1,7)) fun y6 =>
  (Ec F y6.1).bind fun a0 =>
  bif (a0 != 0) then (some (([]:(List sift_Rule)),0,a0)) else (some (y6.1,0,0)))
def Ng:Option Bool :=
  some true
def Nf (p0:(List Int)) (p1:(List Int)) (k2:(Int→Option Bool)) (a0:Int):Option Bool :=
  bif (decide (a0<((p0.length:Nat):Int))) then ((getI p0 a0).bind fun a1 =>
  (getI p1 a0).bind fun a2 =>
  bif (a1 != a2) then (some false) else ((ck (a0+1)).bind fun a3 =>
  k2 a3)) else (Ng)
def Kp (p0:(List Int)) (p1:(List Int)):Nat→Int→Option Bool
  | 0,_=>none
  | n+1,a0=>Nf p0 p1 (Kp p0 p1 n) a0
def Qz (F:Nat) (p0:(List Int)) (p1:(List Int)):Option Bool :=
  bif (((p0.length:Nat):Int) != ((p1.length:Nat):Int)) then (some false) else (Kp p0 p1 F 0)
def Pm (F:Nat) (p0:sift_Node) (p2:api_Sweep) (p3:Int) (p4:Int):Option (Except Int (sift_scan×Int)) :=
  (Cc F p0 300).bind fun a1 =>
  bif (decide (a1>300)) then (some (.error 9)) else ((Dk F p0).bind fun a2 =>
  bif (decide (a2>12)) then (some (.error 24)) else ((gd (((!(sift_isCondition p0))==false&&true)) (Bf F p0) default).bind fun a3 =>
  bif (bif (!(sift_isCondition p0)) then true else (!a3)) then (some (.error 2)) else ((Ks F p2).bind fun a0 =>
  bif (a0 != 0) then (some (.error a0)) else (bif (bif (bif (decide ((if p4<p3 then p4 else p3)<0)) then true else (decide (p3≥((p2.Rays.length:Nat):Int)))) then true else (decide (p4≥p2.Site.Gates))) then (some (.error 4)) else ((Pz F p2).bind fun a4 =>
  some (.ok (a4,0)))))))
def W2 (F:Nat) (p0:sift_Node) (p1:api_Sweep) (p2:Int) (p3:Int):Option (Int×Int) :=
  (Pm F p0 p1 p2 p3).bind fun a5 =>
  exc a5 (fun a1=>bif (a1 != 0) then (some (0,a1)) else (none)) (fun a0=>bif (a0.2 != 0) then (some (0,a0.2)) else ((ck (p2*p1.Site.Gates)).bind fun a3 =>
  (ck (a3+p3)).bind fun a4 =>
  (Ph F (sift_scan.mk (api_Sweep.mk (api_Site.mk a0.1.s.Site.Name a0.1.s.Site.X a0.1.s.Site.Y a0.1.s.Site.Z a0.1.s.Site.Rose a0.1.s.Site.Gates a0.1.s.Site.Step a0.1.s.Site.Width) a0.1.s.Tilt a0.1.s.Time a0.1.s.Rays) a0.1.n a0.1.tests a0.1.values) p0).bind fun a6 =>
  (getI a6.1 a4).bind fun a2 =>
  some (a2,0)))
def Ai (p0:Int) (p1:Int):api_Span :=
  (api_Span.mk p0 p1)
def Nd (a0:(List (List api_Echo))):Option api_Sweep :=
  (getI a0 0).bind fun a1 =>
  (getI a1 1).bind fun a4 =>
  (Pl a1 1 (api_Echo.mk 2 (Ai 10 20) ((api_Span.mk 0 0),(api_Span.mk 0 0)) 7 (Ai 100 100) (Ai 900 950) (api_Span.mk 0 0))).bind fun a2 =>
  (Pl a0 0 a2).bind fun a3 =>
  some (api_Sweep.mk (api_Site.mk (⟨#[115]⟩:ByteArray) 0 0 0 1 2 500 0) 3 0 a3)
def Nc (k2:((List (List api_Echo))→Int→Option api_Sweep)) (a0:(List (List api_Echo))) (a1:Int):Option api_Sweep :=
  bif (decide (a1<4)) then ((apd 24 a0 ([[(api_Echo.mk 1 (Ai 0 5) ((api_Span.mk 0 0),(api_Span.mk 0 0)) 0 (api_Span.mk 0 0) (api_Span.mk 0 0) (api_Span.mk 0 0)),(api_Echo.mk 1 (Ai 0 5) ((api_Span.mk 0 0),(api_Span.mk 0 0)) 0 (api_Span.mk 0 0) (api_Span.mk 0 0) (api_Span.mk 0 0))]])).bind fun a2 =>
  (ck (a1+1)).bind fun a3 =>
  k2 a2 a3) else (Nd a0)
def Kn:Nat→(List (List api_Echo))→Int→Option api_Sweep
  | 0,_,_=>none
  | n+1,a0,a1=>Nc (Kn n) a0 a1
def Nu (F:Nat):Option api_Sweep :=
  Kn F ([]) 0
def F3 (F:Nat) (p0:ByteArray) (p1:Int):Option Bool :=
  (F6 (⟨#[97,58,32]⟩:ByteArray) p0).bind fun s1 =>
  (F6 s1 (⟨#[59]⟩:ByteArray)).bind fun s2 =>
  (Kw F s2).bind fun y4 =>
  bif (bif (y4.2.2 != 0) then true else (((y4.1.length:Nat):Int) != 1)) then (some false) else ((getI y4.1 0).bind fun a1 =>
  (Nu F).bind fun a2 =>
  (W2 F a1.When a2 0 1).bind fun a0 =>
  some (bif (a0.2==0) then (a0.1==p1) else false))
def Ma (F:Nat):Option Bool :=
  (Kw F (⟨#[97,58,32,112,111,119,101,114,32,62,32,52,32,97,110,100,32,110,111,116,32,109,97,116,99,104,32,62,61,32,57,48,48,32,111,114,32,116,105,108,116,32,61,32,51,59]⟩:ByteArray)).bind fun y2 =>
  (Hc F y2.1).bind fun y9 =>
  (Kw F (⟨#[97,58,32,40,112,111,119,101,114,41,32,60,32,51,59]⟩:ByteArray)).bind fun a8 =>
  (Kw F (⟨#[110,111,116,58,32,116,114,117,101,59]⟩:ByteArray)).bind fun aD =>
  bif (bif (bif (bif (bif (bif (bif (bif (y2.2.2 != 0) then true else (y9.2 != 0)) then true else (a8.2.2 != 7)) then true else (aD.2.2 != 7)) then true else (y2.2.1 != 0)) then true else (a8.2.1 != 9)) then true else (aD.2.1 != 0)) then true else (!(sEq y9.1 (⟨#[97,58,32,40,40,40,112,111,119,101,114,32,62,32,52,41,32,97,110,100,32,110,111,116,32,40,109,97,116,99,104,32,62,61,32,57,48,48,41,41,32,111,114,32,40,116,105,108,116,32,61,32,51,41,41,59,10]⟩:ByteArray)))) then (some false) else ((F3 F (⟨#[112,111,119,101,114,32,62,32,57]⟩:ByteArray) 1).bind fun a0 =>
  (gd (((!a0)==false&&true)) (F3 F (⟨#[112,111,119,101,114,32,62,32,49,48]⟩:ByteArray) 2) default).bind fun a1 =>
  (gd (((bif (!a0) then true else (!a1))==false&&true)) (F3 F (⟨#[112,111,119,101,114,32,62,32,50,48]⟩:ByteArray) 3) default).bind fun a3 =>
  (gd (((bif (bif (!a0) then true else (!a1)) then true else (!a3))==false&&true)) (F3 F (⟨#[116,117,114,110,32,61,32,48]⟩:ByteArray) 3) default).bind fun a4 =>
  (gd (((bif (bif (bif (!a0) then true else (!a1)) then true else (!a3)) then true else (!a4))==false&&true)) (F3 F (⟨#[110,111,116,32,116,117,114,110,32,61,32,48]⟩:ByteArray) 1) default).bind fun a5 =>
  (gd (((bif (bif (bif (bif (!a0) then true else (!a1)) then true else (!a3)) then true else (!a4)) then true else (!a5))==false&&true)) (F3 F (⟨#[99,111,117,110,116,32,49,32,49,32,107,105,110,100,32,61,32,49,32,61,32,53]⟩:ByteArray) 1) default).bind fun a7 =>
  (gd (((bif (bif (bif (bif (bif (!a0) then true else (!a1)) then true else (!a3)) then true else (!a4)) then true else (!a5)) then true else (!a7))==false&&true)) (F3 F (⟨#[99,111,117,110,116,32,51,32,51,32,112,111,119,101,114,32,62,32,52,32,60,32,56]⟩:ByteArray) 1) default).bind fun aE =>
  (gd (((bif (bif (bif (bif (bif (bif (!a0) then true else (!a1)) then true else (!a3)) then true else (!a4)) then true else (!a5)) then true else (!a7)) then true else (!aE))==false&&true)) (F3 F (⟨#[97,108,108,32,48,32,48,32,102,97,108,115,101]⟩:ByteArray) 1) default).bind fun aQ =>
  bif (bif (bif (bif (bif (bif (bif (bif (!a0) then true else (!a1)) then true else (!a3)) then true else (!a4)) then true else (!a5)) then true else (!a7)) then true else (!aE)) then true else (!aQ)) then (some false) else ((Kw F (⟨#[97,58,32,109,97,116,99,104,32,60,32,57,50,48,59,32,98,58,32,107,105,110,100,32,61,32,50,59,32,99,58,32,116,114,117,101,59]⟩:ByteArray)).bind fun aF =>
  (Nu F).bind fun aR =>
  (Uj F aF.1 aR).bind fun a2 =>
  bif (bif (bif (aF.2.2 != 0) then true else (a2.2 != 0)) then true else (((a2.1.length:Nat):Int) != 4)) then (some false) else ((getI a2.1 0).bind fun aK =>
  bif (((aK.length:Nat):Int) != 2) then (some false) else ((getI a2.1 0).bind fun aL =>
  (getI aL 1).bind fun aM =>
  bif (aM.Rule != 1) then (some false) else ((getI a2.1 0).bind fun aN =>
  (getI aN 1).bind fun aO =>
  (Qz F aO.Doubts ([0])).bind fun aP =>
  bif (!aP) then (some false) else ((getI a2.1 0).bind fun aG =>
  (getI aG 0).bind fun aH =>
  bif (aH.Rule != 2) then (some false) else ((getI a2.1 0).bind fun aI =>
  (getI aI 0).bind fun aJ =>
  bif (((aJ.Doubts.length:Nat):Int) != 0) then (some false) else ((Kw F (⟨#[97,58,32,115,111,109,101,32,49,32,50,32,99,111,117,110,116,32,50,32,48,32,112,111,119,101,114,32,62,32,49,32,62,32,51,59]⟩:ByteArray)).bind fun a9 =>
  (Kb F a9.1).bind fun a6 =>
  (Kw F (⟨#[97,58,32,110,111,116,32,40,112,111,119,101,114,32,62,32,49,32,97,110,100,32,110,111,116,32,115,111,109,101,32,49,32,49,32,116,114,117,101,41,59]⟩:ByteArray)).bind fun aA =>
  (Ka F aA.1).bind fun aB =>
  (Hc F aB.1).bind fun aC =>
  some (bif (bif (bif (bif (bif (bif (bif (a9.2.2==0) then (a6.2.2==0) else false) then (aA.2.2==0) else false) then (aB.2==0) else false) then (aC.2==0) else false) then (a6.1==3) else false) then (a6.2.1==2) else false) then (sEq aC.1 (⟨#[97,58,32,40,110,111,116,32,40,112,111,119,101,114,32,62,32,49,41,32,111,114,32,115,111,109,101,32,49,32,49,32,116,114,117,101,41,59,10]⟩:ByteArray)) else false)))))))))
def Nv (p0:ref04_Node) (a0:(List sift_Node)):Option sift_Node :=
  some (sift_Node.mk p0.Op p0.Value_ p0.Rays p0.Gates a0)
def Le (self_:(ref04_Node→Option sift_Node)) (p0:ref04_Node) (k2:((List sift_Node)→Int→Option sift_Node)) (a1:(List sift_Node)) (a0:Int):Option sift_Node :=
  bif (decide (a0<((p0.Args.length:Nat):Int))) then ((getI p0.Args a0).bind fun a3 =>
  (self_ a3).bind fun a5 =>
  (apd 56 a1 ([a5])).bind fun a2 =>
  (ck (a0+1)).bind fun a4 =>
  k2 a2 a4) else (Nv p0 a1)
def Lf (self_:(ref04_Node→Option sift_Node)) (p0:ref04_Node):Nat→(List sift_Node)→Int→Option sift_Node
  | 0,_,_=>none
  | n+1,a0,a1=>Le self_ p0 (Lf self_ p0 n) a0 a1
def S0 (F:Nat) (self_:ref04_Node→Option sift_Node) (p0:ref04_Node):Option sift_Node :=
  Lf self_ p0 F ([]) 0
def Jm:Nat→ref04_Node→Option sift_Node
  | 0,_=>none
  | F+1,p0=>S0 F (Jm F) p0
def Mi (a0:(List sift_Rule)):Option (List sift_Rule) :=
  some a0
def Jn (F:Nat) (p0:(List ref04_Rule)) (k2:((List sift_Rule)→Int→Option (List sift_Rule))) (a1:(List sift_Rule)) (a0:Int):Option (List sift_Rule) :=
  bif (decide (a0<((p0.length:Nat):Int))) then ((getI p0 a0).bind fun a3 =>
  (getI p0 a0).bind fun a4 =>
  (Jm F a4.When).bind fun a6 =>
  (apd 72 a1 ([(sift_Rule.mk a3.Name a6)])).bind fun a2 =>
  (ck (a0+1)).bind fun a5 =>
  k2 a2 a5) else (Mi a1)
def Jo (F:Nat) (p0:(List ref04_Rule)):Nat→(List sift_Rule)→Int→Option (List sift_Rule)
  | 0,_,_=>none
  | n+1,a0,a1=>Jn F p0 (Jo F p0 n) a0 a1
def Qq (F:Nat) (p0:(List ref04_Rule)):Option (List sift_Rule) :=
  Jo F p0 F ([]) 0
def Nx:Option Bool :=
  some true
def Nw (p0:ByteArray) (k2:(Int→Option Bool)) (a1:Int):Option Bool :=
  bif (decide (a1<((p0.size:Nat):Int))) then ((Qn p0 a1).bind fun a0 =>
  bif (bif (bif (bif (decide (a0<97)) then true else (decide (a0>122))) then (bif (decide (a0<48)) then true else (decide (a0>57))) else false) then (a0 != 95) else false) then (some false) else ((ck (a1+1)).bind fun a2 =>
  k2 a2)) else (Nx)
def J3 (p0:ByteArray):Nat→Int→Option Bool
  | 0,_=>none
  | n+1,a0=>Nw p0 (J3 p0 n) a0
def Qc (F:Nat) (p0:ByteArray):Option Bool :=
  (gd (((bif (decide (((p0.size:Nat):Int)<1)) then true else (decide (((p0.size:Nat):Int)>12)))==false&&true)) (Qn p0 (0:Int)) default).bind fun u1 =>
  (gd (((bif (bif (decide (((p0.size:Nat):Int)<1)) then true else (decide (((p0.size:Nat):Int)>12))) then true else (decide (u1<97)))==false&&true)) (Qn p0 (0:Int)) default).bind fun u2 =>
  bif (bif (bif (bif (decide (((p0.size:Nat):Int)<1)) then true else (decide (((p0.size:Nat):Int)>12))) then true else (decide (u1<97))) then true else (decide (u2>122))) then (some false) else (J3 p0 F 0)
def G3 (F:Nat) (p0:Int):Option ByteArray :=
  bif (bif (decide (p0<1)) then true else (decide (p0≥((28:Nat):Int)))) then (some (⟨#[]⟩:ByteArray)) else ((getI ([(⟨#[]⟩:ByteArray),(⟨#[116,114,117,101]⟩:ByteArray),(⟨#[102,97,108,115,101]⟩:ByteArray),(⟨#[110,111,116]⟩:ByteArray),(⟨#[97,110,100]⟩:ByteArray),(⟨#[111,114]⟩:ByteArray),(⟨#[115,111,109,101]⟩:ByteArray),(⟨#[97,108,108]⟩:ByteArray),(⟨#[60]⟩:ByteArray),(⟨#[60,61]⟩:ByteArray),(⟨#[62]⟩:ByteArray),(⟨#[62,61]⟩:ByteArray),(⟨#[61]⟩:ByteArray),(⟨#[33,61]⟩:ByteArray),(⟨#[]⟩:ByteArray),(⟨#[112,111,119,101,114]⟩:ByteArray),(⟨#[114,97,116,105,111]⟩:ByteArray),(⟨#[109,97,116,99,104]⟩:ByteArray),(⟨#[115,112,114,101,97,100]⟩:ByteArray),(⟨#[116,117,114,110]⟩:ByteArray),(⟨#[115,116,101,112]⟩:ByteArray),(⟨#[107,105,110,100]⟩:ByteArray),(⟨#[114,97,121]⟩:ByteArray),(⟨#[103,97,116,101]⟩:ByteArray),(⟨#[116,105,108,116]⟩:ByteArray),(⟨#[99,111,117,110,116]⟩:ByteArray),(⟨#[43]⟩:ByteArray),(⟨#[45]⟩:ByteArray)]) p0).bind fun u2 =>
  some u2)
def Ny:Option Int :=
  some 0
def Lj (F:Nat) (p0:ByteArray) (p2:Int) (k2:(Int→Option Int)) (a0:Int):Option Int :=
  bif (decide (a0≤p2)) then ((G3 F a0).bind fun a1 =>
  (gd (((!(sEq a1 (⟨#[]⟩:ByteArray)))==true&&true)) (G3 F a0) default).bind fun a3 =>
  bif (bif (!(sEq a1 (⟨#[]⟩:ByteArray))) then (sEq a3 p0) else false) then (some a0) else ((ck (a0+1)).bind fun a2 =>
  k2 a2)) else (Ny)
def J5 (F:Nat) (p0:ByteArray) (p2:Int):Nat→Int→Option Int
  | 0,_=>none
  | n+1,a0=>Lj F p0 p2 (J5 F p0 p2 n) a0
def S8 (F:Nat) (p0:ByteArray) (p1:Int) (p2:Int):Option Int :=
  J5 F p0 p2 F p1
def Qh (F:Nat) (p0:ByteArray):Option Bool :=
  (S8 F p0 1 25).bind fun y1 =>
  some (bif (y1 != 0) then (bif (decide (y1<8)) then true else (decide (y1>13))) else false)
def Mt (a0:Int):Option Int :=
  (ck (1+a0)).bind fun a1 =>
  some a1
def Jz (self_:(ref04_Node→Option Int)) (p0:ref04_Node) (k2:(Int→Int→Option Int)) (a0:Int) (a1:Int):Option Int :=
  bif (decide (a1<((p0.Args.length:Nat):Int))) then ((getI p0.Args a1).bind fun a3 =>
  (self_ a3).bind fun a2 =>
  (ck (a1+1)).bind fun a4 =>
  k2 (if a2>a0 then a2 else a0) a4) else (Mt a0)
def Gn (self_:(ref04_Node→Option Int)) (p0:ref04_Node):Nat→Int→Int→Option Int
  | 0,_,_=>none
  | n+1,a0,a1=>Jz self_ p0 (Gn self_ p0 n) a0 a1
def R3 (F:Nat) (self_:ref04_Node→Option Int) (p0:ref04_Node):Option Int :=
  Gn self_ p0 F 0 0
def F4:Nat→ref04_Node→Option Int
  | 0,_=>none
  | F+1,p0=>R3 F (F4 F) p0
def Bj (p0:Int) (p1:Int) (p2:Int):Bool :=
  bif (decide (p0≥p1)) then (decide (p0≤p2)) else false
abbrev Bu:=ref04_Node→Option Bool
abbrev Cx:=ref04_Node→Option Bool
def Fx:Option Bool :=
  some true
def Dy (s65_:Bu) (s101_:Cx) (p0:ref04_Node) (k4:(Int→Option Bool)) (a0:Int):Option Bool :=
  bif (decide (a0<((p0.Args.length:Nat):Int))) then (bif (decide (p0.Op≥8)) then ((getI p0.Args a0).bind fun a1 =>
  (s101_ a1).bind fun a8 =>
  bif (!a8) then (some false) else (bif (decide (p0.Op<8)) then ((getI p0.Args a0).bind fun a2 =>
  (s65_ a2).bind fun a9 =>
  bif (!a9) then (some false) else ((ck (a0+1)).bind fun a4 =>
  k4 a4)) else ((ck (a0+1)).bind fun a5 =>
  k4 a5))) else (bif (decide (p0.Op<8)) then ((getI p0.Args a0).bind fun a3 =>
  (s65_ a3).bind fun aA =>
  bif (!aA) then (some false) else ((ck (a0+1)).bind fun a6 =>
  k4 a6)) else ((ck (a0+1)).bind fun a7 =>
  k4 a7))) else (Fx)
def Cq (s65_:Bu) (s101_:Cx) (p0:ref04_Node):Nat→Int→Option Bool
  | 0,_=>none
  | n+1,a0=>Dy s65_ s101_ p0 (Cq s65_ s101_ p0 n) a0
def E0 (F:Nat) (s65_:Bu) (s101_:Cx) (p0:ref04_Node) (x7:Int):Option Bool :=
  bif (((p0.Args.length:Nat):Int) != x7) then (some false) else (Cq s65_ s101_ p0 F 0)
def Dz (F:Nat) (s65_:Bu) (s101_:Cx) (p0:ref04_Node) (x6:Int):Option Bool :=
  bif (bif (bif (p0.Op==4) then true else (p0.Op==5)) then true else (decide (p0.Op≥8))) then (E0 F s65_ s101_ p0 2) else (E0 F s65_ s101_ p0 x6)
def Fw (F:Nat) (s65_:Bu) (s101_:Cx) (p0:ref04_Node):Option Bool :=
  bif (bif (bif (bif (bif (bif (decide (p0.Op<1)) then true else (decide (p0.Op>13))) then true else (p0.Value_ != 0)) then true else (bif (bif (p0.Op != 6) then (p0.Op != 7) else false) then (bif (p0.Rays != 0) then true else (p0.Gates != 0)) else false)) then true else (!(Bj p0.Rays 0 3))) then true else (!(Bj p0.Gates 0 3))) then (some false) else (bif (decide (p0.Op≤2)) then (Dz F s65_ s101_ p0 0) else (Dz F s65_ s101_ p0 1))
def Lk (F:Nat) (s65_:Bu) (s101_:Cx) (p0:ref04_Node):Option Bool :=
  bif (bif (bif (bif (bif (bif (bif (decide (p0.Op<14)) then true else (decide (p0.Op>27))) then true else (!(Bj p0.Value_ 0 1000000000))) then true else (bif (p0.Op != 14) then (p0.Value_ != 0) else false)) then true else (bif (p0.Op != 25) then (bif (p0.Rays != 0) then true else (p0.Gates != 0)) else false)) then true else (!(Bj p0.Rays 0 3))) then true else (!(Bj p0.Gates 0 3))) then (some false) else (bif (p0.Op==25) then (bif (((p0.Args.length:Nat):Int)==1) then ((getI p0.Args 0).bind fun u7 =>
  (s65_ u7).bind fun a3 =>
  some a3) else (some false)) else (bif (decide (p0.Op≥26)) then (bif (((p0.Args.length:Nat):Int)==2) then ((getI p0.Args 0).bind fun a0 =>
  (s101_ a0).bind fun a4 =>
  bif a4 then ((getI p0.Args 1).bind fun a1 =>
  (s101_ a1).bind fun a5 =>
  bif a5 then ((getI p0.Args 1).bind fun a2 =>
  some (decide (a2.Op<26))) else (some false)) else (some false)) else (some false)) else (some (((p0.Args.length:Nat):Int)==0))))
def Bc:Nat→Bu×Cx
  | 0=>(fun _=>none,fun _=>none)
  | F+1=>(Fw F (Bc F).1 (Bc F).2,Lk F (Bc F).1 (Bc F).2)
def Ci (F:Nat):Bu:=(Bc F).1
def Fz (F:Nat):Cx:=(Bc F).2
def Qe:Option Int :=
  some 0
def Mr (a0:Int) (k3:(Int→Option Int)):Option Int :=
  (ck (a0+1)).bind fun a1 =>
  k3 a1
def Jx (F:Nat) (p0:(List ref04_Rule)) (a0:Int) (k3:(Int→Option Int)):Option Int :=
  (getI p0 a0).bind fun a1 =>
  (F4 F a1.When).bind fun a3 =>
  bif (decide (a3>12)) then (some 24) else ((getI p0 a0).bind fun a2 =>
  (Ci F a2.When).bind fun a4 =>
  bif (!a4) then (some 2) else (Mr a0 k3))
def Gm (F:Nat) (p0:(List ref04_Rule)) (a0:Int) (k3:(Int→Option Int)) (k6:(Int→Option Int)) (a1:Int):Option Int :=
  bif (decide (a1<a0)) then ((getI p0 a1).bind fun a2 =>
  (getI p0 a0).bind fun a3 =>
  bif (sEq a2.Name a3.Name) then (some 5) else ((ck (a1+1)).bind fun a4 =>
  k6 a4)) else (Jx F p0 a0 k3)
def Dx (F:Nat) (p0:(List ref04_Rule)) (a0:Int) (k3:(Int→Option Int)):Nat→Int→Option Int
  | 0,_=>none
  | n+1,a1=>Gm F p0 a0 k3 (Dx F p0 a0 k3 n) a1
def Jv (F:Nat) (p0:(List ref04_Rule)) (k3:(Int→Option Int)) (a0:Int):Option Int :=
  bif (decide (a0<((p0.length:Nat):Int))) then ((getI p0 a0).bind fun a1 =>
  (Qc F a1.Name).bind fun a3 =>
  bif (!a3) then (some 10) else ((getI p0 a0).bind fun a2 =>
  (Qh F a2.Name).bind fun a4 =>
  bif a4 then (some 10) else (Dx F p0 a0 k3 F 0))) else (Qe)
def Dw (F:Nat) (p0:(List ref04_Rule)):Nat→Int→Option Int
  | 0,_=>none
  | n+1,a0=>Jv F p0 (Dw F p0 n) a0
def Qd (F:Nat) (p0:(List ref04_Rule)):Option Int :=
  Dw F p0 F 0
def Jw (F:Nat) (p0:(List ref04_Rule)) (k7:(Int→Int→Option Int)) (a3:Int) (a0:Int):Option Int :=
  bif (decide (a0<((p0.length:Nat):Int))) then ((getI p0 a0).bind fun a2 =>
  (Dm F a2.When 300).bind fun a5 =>
  (ck (a3+a5)).bind fun a1 =>
  bif (decide (a1>300)) then (some 9) else ((ck (a0+1)).bind fun a4 =>
  k7 a1 a4)) else (Qd F p0)
def Jy (F:Nat) (p0:(List ref04_Rule)):Nat→Int→Int→Option Int
  | 0,_,_=>none
  | n+1,a0,a1=>Jw F p0 (Jy F p0 n) a0 a1
def Dv (F:Nat) (p0:(List ref04_Rule)):Option Int :=
  bif (decide (((p0.length:Nat):Int)>32)) then (some 9) else (Jy F p0 F 0 0)
def Eb (self_:Int→Option ByteArray) (p0:Int):Option ByteArray :=
  (Xm p0 10).bind fun x1 =>
  (ck (48+x1)).bind fun x2 =>
  bif (decide (p0≥10)) then ((Ys p0 10).bind fun x4 =>
  (self_ x4).bind fun y5 =>
  (F6 y5 (bst ([IntKind.u8.wrap x2]))).bind fun s6 =>
  some s6) else (some (bst ([IntKind.u8.wrap x2])))
def Cj:Nat→Int→Option ByteArray
  | 0,_=>none
  | F+1,p0=>Eb (Cj F) p0
def Dt (F:Nat) (self_:ref04_Node→Option ByteArray) (p0:ref04_Node):Option ByteArray :=
  (G3 F p0.Op).bind fun y6 =>
  (F6 y6 (⟨#[32]⟩:ByteArray)).bind fun s7 =>
  (Cj F p0.Rays).bind fun y8 =>
  (F6 s7 y8).bind fun s9 =>
  (F6 s9 (⟨#[32]⟩:ByteArray)).bind fun a0 =>
  (Cj F p0.Gates).bind fun aL =>
  (F6 a0 aL).bind fun a1 =>
  (F6 a1 (⟨#[32]⟩:ByteArray)).bind fun a2 =>
  bif (p0.Op==14) then ((Cj F p0.Value_).bind fun aM =>
  some aM) else (bif (p0.Op==3) then ((getI p0.Args 0).bind fun aF =>
  (self_ aF).bind fun aN =>
  (F6 (⟨#[110,111,116,32]⟩:ByteArray) aN).bind fun a3 =>
  some a3) else (bif (bif (bif (p0.Op==6) then true else (p0.Op==7)) then true else (p0.Op==25)) then ((getI p0.Args 0).bind fun aG =>
  (self_ aG).bind fun aO =>
  (F6 a2 aO).bind fun a4 =>
  some a4) else (bif (decide (p0.Op≥26)) then ((getI p0.Args 0).bind fun aH =>
  (self_ aH).bind fun aP =>
  (F6 aP (⟨#[32]⟩:ByteArray)).bind fun a5 =>
  (G3 F p0.Op).bind fun aQ =>
  (F6 a5 aQ).bind fun a6 =>
  (F6 a6 (⟨#[32]⟩:ByteArray)).bind fun a7 =>
  (getI p0.Args 1).bind fun aI =>
  (self_ aI).bind fun aR =>
  (F6 a7 aR).bind fun a8 =>
  some a8) else (bif (((p0.Args.length:Nat):Int)==2) then ((getI p0.Args 0).bind fun aJ =>
  (self_ aJ).bind fun aS =>
  (F6 (⟨#[40]⟩:ByteArray) aS).bind fun a9 =>
  (F6 a9 (⟨#[32]⟩:ByteArray)).bind fun aA =>
  (G3 F p0.Op).bind fun aT =>
  (F6 aA aT).bind fun aB =>
  (F6 aB (⟨#[32]⟩:ByteArray)).bind fun aC =>
  (getI p0.Args 1).bind fun aK =>
  (self_ aK).bind fun aU =>
  (F6 aC aU).bind fun aD =>
  (F6 aD (⟨#[41]⟩:ByteArray)).bind fun aE =>
  some aE) else ((G3 F p0.Op).bind fun aV =>
  some aV)))))
def Hb:Nat→ref04_Node→Option ByteArray
  | 0,_=>none
  | F+1,p0=>Dt F (Hb F) p0
def Mv (a0:ByteArray):Option (ByteArray×Int) :=
  bif (decide (((a0.size:Nat):Int)>65536)) then (some ((⟨#[]⟩:ByteArray),8)) else (some (a0,0))
def K5 (F:Nat) (p0:(List ref04_Rule)) (k2:(ByteArray→Int→Option (ByteArray×Int))) (a1:ByteArray) (a0:Int):Option (ByteArray×Int) :=
  bif (decide (a0<((p0.length:Nat):Int))) then ((getI p0 a0).bind fun a6 =>
  (F6 a6.Name (⟨#[58,32]⟩:ByteArray)).bind fun a2 =>
  (getI p0 a0).bind fun a7 =>
  (Hb F a7.When).bind fun a9 =>
  (F6 a2 a9).bind fun a3 =>
  (F6 a3 (⟨#[59,10]⟩:ByteArray)).bind fun a4 =>
  (F6 a1 a4).bind fun a5 =>
  (ck (a0+1)).bind fun a8 =>
  k2 a5 a8) else (Mv a1)
def K6 (F:Nat) (p0:(List ref04_Rule)):Nat→ByteArray→Int→Option (ByteArray×Int)
  | 0,_,_=>none
  | n+1,a0,a1=>K5 F p0 (K6 F p0 n) a0 a1
def K4 (F:Nat) (p0:(List ref04_Rule)):Option (ByteArray×Int) :=
  (Dv F p0).bind fun y5 =>
  bif (y5 != 0) then (some ((⟨#[]⟩:ByteArray),y5)) else (K6 F p0 F (⟨#[]⟩:ByteArray) 0)
def Pt (p0:ref04_Node) (a0:Int) (a1:Int):Option (Int×Int) :=
  (ck (a0+p0.Rays)).bind fun a2 =>
  (ck (a1+p0.Gates)).bind fun a3 =>
  some (a2,a3)
def Ha (self_:(ref04_Node→Option (Int×Int))) (p0:ref04_Node) (k2:(Int→Int→Int→Option (Int×Int))) (a1:Int) (a2:Int) (a3:Int):Option (Int×Int) :=
  bif (decide (a3<((p0.Args.length:Nat):Int))) then ((getI p0.Args a3).bind fun a4 =>
  (self_ a4).bind fun a0 =>
  (ck (a3+1)).bind fun a5 =>
  k2 (if a0.1>a1 then a0.1 else a1) (if a0.2>a2 then a0.2 else a2) a5) else (Pt p0 a1 a2)
def Fy (self_:(ref04_Node→Option (Int×Int))) (p0:ref04_Node):Nat→Int→Int→Int→Option (Int×Int)
  | 0,_,_,_=>none
  | n+1,a0,a1,a2=>Ha self_ p0 (Fy self_ p0 n) a0 a1 a2
def Tg (F:Nat) (self_:ref04_Node→Option (Int×Int)) (p0:ref04_Node):Option (Int×Int) :=
  Fy self_ p0 F 0 0 0
def Ku:Nat→ref04_Node→Option (Int×Int)
  | 0,_=>none
  | F+1,p0=>Tg F (Ku F) p0
def Qg (a0:Int) (a1:Int):Option (Int×Int×Int) :=
  some (a0,a1,0)
def K8 (F:Nat) (p0:(List ref04_Rule)) (k2:(Int→Int→Int→Option (Int×Int×Int))) (a1:Int) (a2:Int) (a3:Int):Option (Int×Int×Int) :=
  bif (decide (a3<((p0.length:Nat):Int))) then ((getI p0 a3).bind fun a4 =>
  (Ku F a4.When).bind fun a0 =>
  (ck (a3+1)).bind fun a5 =>
  k2 (if a0.1>a1 then a0.1 else a1) (if a0.2>a2 then a0.2 else a2) a5) else (Qg a1 a2)
def K9 (F:Nat) (p0:(List ref04_Rule)):Nat→Int→Int→Int→Option (Int×Int×Int)
  | 0,_,_,_=>none
  | n+1,a0,a1,a2=>K8 F p0 (K9 F p0 n) a0 a1 a2
def K7 (F:Nat) (p0:(List ref04_Rule)):Option (Int×Int×Int) :=
  (Dv F p0).bind fun y5 =>
  bif (y5 != 0) then (some (0,0,y5)) else (K9 F p0 F 0 0 0)
def Gq (p0:ref04_Node) (a1:Int) (a0:(List ref04_Node)):Option ref04_Node :=
  some (ref04_Node.mk a1 p0.Value_ p0.Rays p0.Gates a0)
def Bo (self_:(ref04_Node→Bool→Option ref04_Node)) (p0:ref04_Node) (p1:Bool) (a5:Int) (k4:((List ref04_Node)→Int→Option ref04_Node)) (a1:(List ref04_Node)) (a0:Int):Option ref04_Node :=
  bif (decide (a0<((p0.Args.length:Nat):Int))) then ((getI p0.Args a0).bind fun a3 =>
  (self_ a3 p1).bind fun a6 =>
  (apd 56 a1 ([a6])).bind fun a2 =>
  (ck (a0+1)).bind fun a4 =>
  k4 a2 a4) else (Gq p0 a5 a1)
def Fj (self_:(ref04_Node→Bool→Option ref04_Node)) (p0:ref04_Node) (p1:Bool) (a0:Int):Nat→(List ref04_Node)→Int→Option ref04_Node
  | 0,_,_=>none
  | n+1,a1,a2=>Bo self_ p0 p1 a0 (Fj self_ p0 p1 a0 n) a1 a2
def E3 (F:Nat) (self_:(ref04_Node→Bool→Option ref04_Node)) (p0:ref04_Node) (p1:Bool) (a0:Int):Option ref04_Node :=
  Fj self_ p0 p1 a0 F ([]) 0
def E2 (F:Nat) (self_:(ref04_Node→Bool→Option ref04_Node)) (p0:ref04_Node) (p1:Bool):Option ref04_Node :=
  bif (bif p1 then (decide (p0.Op≥8)) else false) then ((self_ p0 false).bind fun a1 =>
  some (ref04_Node.mk 3 0 0 0 ([a1]))) else (bif p1 then ((getI ([0,2,1,0,5,4,7,6]) p0.Op).bind fun a0 =>
  E3 F self_ p0 p1 a0) else (E3 F self_ p0 p1 p0.Op))
def Cw (F:Nat) (self_:ref04_Node→Bool→Option ref04_Node) (p0:ref04_Node) (p1:Bool):Option ref04_Node :=
  bif (p0.Op==3) then ((getI p0.Args 0).bind fun a0 =>
  bif (decide (a0.Op<8)) then ((self_ a0 (!p1)).bind fun a1 =>
  some a1) else (bif p1 then ((self_ a0 false).bind fun a2 =>
  some a2) else (E2 F self_ p0 p1))) else (E2 F self_ p0 p1)
def D4:Nat→ref04_Node→Bool→Option ref04_Node
  | 0,_,_=>none
  | F+1,p0,p1=>Cw F (D4 F) p0 p1
def Qf (a0:(List ref04_Rule)):Option ((List ref04_Rule)×Int) :=
  some (a0,0)
def K2 (F:Nat) (p0:(List ref04_Rule)) (k2:((List ref04_Rule)→Int→Option ((List ref04_Rule)×Int))) (a1:(List ref04_Rule)) (a0:Int):Option ((List ref04_Rule)×Int) :=
  bif (decide (a0<((p0.length:Nat):Int))) then ((getI p0 a0).bind fun a3 =>
  (getI p0 a0).bind fun a4 =>
  (D4 F a4.When false).bind fun a6 =>
  (apd 72 a1 ([(ref04_Rule.mk a3.Name a6)])).bind fun a2 =>
  (ck (a0+1)).bind fun a5 =>
  k2 a2 a5) else (Qf a1)
def K3 (F:Nat) (p0:(List ref04_Rule)):Nat→(List ref04_Rule)→Int→Option ((List ref04_Rule)×Int)
  | 0,_,_=>none
  | n+1,a0,a1=>K2 F p0 (K3 F p0 n) a0 a1
def K1 (F:Nat) (p0:(List ref04_Rule)):Option ((List ref04_Rule)×Int) :=
  (Dv F p0).bind fun y5 =>
  bif (y5 != 0) then (some (([]:(List ref04_Rule)),y5)) else (K3 F p0 F ([]) 0)
def Mj:Option Bool :=
  some true
def D8 (self_:(sift_Node→ref04_Node→Option Bool)) (p0:sift_Node) (p1:ref04_Node) (k2:(Int→Option Bool)) (a0:Int):Option Bool :=
  bif (decide (a0<((p0.Args.length:Nat):Int))) then ((getI p0.Args a0).bind fun a1 =>
  (getI p1.Args a0).bind fun a2 =>
  (self_ a1 a2).bind fun a4 =>
  bif (!a4) then (some false) else ((ck (a0+1)).bind fun a3 =>
  k2 a3)) else (Mj)
def Br (self_:(sift_Node→ref04_Node→Option Bool)) (p0:sift_Node) (p1:ref04_Node):Nat→Int→Option Bool
  | 0,_=>none
  | n+1,a0=>D8 self_ p0 p1 (Br self_ p0 p1 n) a0
def Gj (F:Nat) (self_:sift_Node→ref04_Node→Option Bool) (p0:sift_Node) (p1:ref04_Node):Option Bool :=
  bif (bif (bif (bif (bif (p0.Op != p1.Op) then true else (p0.Value_ != p1.Value_)) then true else (p0.Rays != p1.Rays)) then true else (p0.Gates != p1.Gates)) then true else (((p0.Args.length:Nat):Int) != ((p1.Args.length:Nat):Int))) then (some false) else (Br self_ p0 p1 F 0)
def C0:Nat→sift_Node→ref04_Node→Option Bool
  | 0,_,_=>none
  | F+1,p0,p1=>Gj F (C0 F) p0 p1
def R0:Option Bool :=
  some true
def Lg (F:Nat) (p0:(List sift_Rule)) (p1:(List ref04_Rule)) (k2:(Int→Option Bool)) (a0:Int):Option Bool :=
  bif (decide (a0<((p0.length:Nat):Int))) then ((getI p0 a0).bind fun a1 =>
  (getI p1 a0).bind fun a2 =>
  bif (!(sEq a1.Name a2.Name)) then (bif (bif (!(sEq a1.Name a2.Name)) then true else true) then (some false) else ((ck (a0+1)).bind fun a5 =>
  k2 a5)) else ((getI p0 a0).bind fun a3 =>
  (getI p1 a0).bind fun a4 =>
  (C0 F a3.When a4.When).bind fun a7 =>
  bif (bif (!(sEq a1.Name a2.Name)) then true else (!a7)) then (some false) else ((ck (a0+1)).bind fun a6 =>
  k2 a6))) else (R0)
def Lh (F:Nat) (p0:(List sift_Rule)) (p1:(List ref04_Rule)):Nat→Int→Option Bool
  | 0,_=>none
  | n+1,a0=>Lg F p0 p1 (Lh F p0 p1 n) a0
def Nh (F:Nat) (p0:(List sift_Rule)) (p1:(List ref04_Rule)):Option Bool :=
  bif (((p0.length:Nat):Int) != ((p1.length:Nat):Int)) then (some false) else (Lh F p0 p1 F 0)
def Ht (F:Nat) (p0:(List ref04_Rule)):Option Bool :=
  (Tw F p0).bind fun y5 =>
  bif (!y5) then ((Ma F).bind fun y6 =>
  some y6) else ((Qq F p0).bind fun y8 =>
  (Hc F y8).bind fun a4 =>
  (K4 F p0).bind fun a5 =>
  (Ec F y8).bind fun a7 =>
  (Dv F p0).bind fun a8 =>
  bif (bif (bif (a7 != a8) then true else (!(sEq a4.1 a5.1))) then true else (a4.2 != a5.2)) then (some false) else ((Kb F y8).bind fun a0 =>
  (K7 F p0).bind fun a1 =>
  bif (bif (bif (a0.1 != a1.1) then true else (a0.2.1 != a1.2.1)) then true else (a0.2.2 != a1.2.2)) then (some false) else ((Ka F y8).bind fun a2 =>
  (K1 F p0).bind fun a3 =>
  (Nh F a2.1 a3.1).bind fun a6 =>
  (gd (((bif a6 then (a2.2==a3.2) else false)==true&&true)) (Ma F) default).bind fun a9 =>
  some (bif (bif a6 then (a2.2==a3.2) else false) then a9 else false))))
end Go.Proofs.YtkjnafecmjakcaaGreatDoor
