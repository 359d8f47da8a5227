import Derived.Test.YtkjnafecmjakcaaGreatDoorS5EB
namespace Go.Proofs.YtkjnafecmjakcaaGreatDoor
open Go Go.RowKit Go.Eng
set_option maxRecDepth 10000
set_option maxHeartbeats 4000000
set_option linter.unusedVariables false
set_option linter.unusedSimpArgs false
structure sift_Node where
  Op:Int
  Value_:Int
  Rays:Int
  Gates:Int
  Args:(List sift_Node)
  deriving Inhabited
structure sift_Rule where
  Name:ByteArray
  When:sift_Node
  deriving Inhabited
structure api_Site where
  Name:ByteArray
  X:Int
  Y:Int
  Z:Int
  Rose:Int
  Gates:Int
  Step:Int
  Width:Int
  deriving Inhabited,DecidableEq
def api_Site.cells (x:api_Site):List Value:=[.string x.Name,.int .i64 x.X,.int .i64 x.Y,.int .i64 x.Z,.int .i64 x.Rose,.int .i64 x.Gates,.int .i64 x.Step,.int .i64 x.Width]
structure api_Span where
  Lo:Int
  Hi:Int
  deriving Inhabited,DecidableEq
def api_Span.cells (x:api_Span):List Value:=[.int .i64 x.Lo,.int .i64 x.Hi]
theorem api_Span.cells_len (x:api_Span):(api_Span.cells x).length=2:=rfl
structure api_Echo where
  Kind:Int
  Power:api_Span
  Steps:(api_Span×api_Span)
  Spread:Int
  Ratio:api_Span
  Match:api_Span
  Turn:api_Span
  deriving Inhabited,DecidableEq
def api_Echo.cells (x:api_Echo):List Value:=[.int .i64 x.Kind,.int .i64 x.Power.Lo,.int .i64 x.Power.Hi,.int .i64 x.Steps.1.Lo,.int .i64 x.Steps.1.Hi,.int .i64 x.Steps.2.Lo,.int .i64 x.Steps.2.Hi,.int .i64 x.Spread,.int .i64 x.Ratio.Lo,.int .i64 x.Ratio.Hi,.int .i64 x.Match.Lo,.int .i64 x.Match.Hi,.int .i64 x.Turn.Lo,.int .i64 x.Turn.Hi]
theorem api_Echo.cells_len (x:api_Echo):(api_Echo.cells x).length=14:=rfl
structure api_Sweep where
  Site:api_Site
  Tilt:Int
  Time:Int
  Rays:(List (List api_Echo))
  deriving Inhabited,DecidableEq
structure sift_val where
  span:api_Span
  has:Bool
  deriving Inhabited,DecidableEq
def sift_val.cells (x:sift_val):List Value:=[.int .i64 x.span.Lo,.int .i64 x.span.Hi,.bool x.has]
theorem sift_val.cells_len (x:sift_val):(sift_val.cells x).length=3:=rfl
structure sift_scan where
  s:api_Sweep
  n:Int
  tests:(List (ByteArray×(List Int)))
  values:(List (ByteArray×(List sift_val)))
  deriving Inhabited,DecidableEq
structure sift_Verdict where
  Rule:Int
  Doubts:(List Int)
  deriving Inhabited,DecidableEq
structure sift_reader where
  s:ByteArray
  at_:Int
  token:ByteArray
  from_:Int
  deriving Inhabited,DecidableEq
def sift_reader.cells (x:sift_reader):List Value:=[.string x.s,.int .i64 x.at_,.string x.token,.int .i64 x.from_]
abbrev api_Site.ar (x:api_Site):Array Value:=#[.string x.Name,.int .i64 x.X,.int .i64 x.Y,.int .i64 x.Z,.int .i64 x.Rose,.int .i64 x.Gates,.int .i64 x.Step,.int .i64 x.Width]
abbrev api_Site.ag (x:api_Site):Value:=.agg #[.string x.Name,.int .i64 x.X,.int .i64 x.Y,.int .i64 x.Z,.int .i64 x.Rose,.int .i64 x.Gates,.int .i64 x.Step,.int .i64 x.Width]
abbrev api_Echo.ar (x:api_Echo):Array Value:=#[.int .i64 x.Kind,.int .i64 x.Power.Lo,.int .i64 x.Power.Hi,.int .i64 x.Steps.1.Lo,.int .i64 x.Steps.1.Hi,.int .i64 x.Steps.2.Lo,.int .i64 x.Steps.2.Hi,.int .i64 x.Spread,.int .i64 x.Ratio.Lo,.int .i64 x.Ratio.Hi,.int .i64 x.Match.Lo,.int .i64 x.Match.Hi,.int .i64 x.Turn.Lo,.int .i64 x.Turn.Hi]
abbrev api_Echo.ag (x:api_Echo):Value:=.agg #[.int .i64 x.Kind,.int .i64 x.Power.Lo,.int .i64 x.Power.Hi,.int .i64 x.Steps.1.Lo,.int .i64 x.Steps.1.Hi,.int .i64 x.Steps.2.Lo,.int .i64 x.Steps.2.Hi,.int .i64 x.Spread,.int .i64 x.Ratio.Lo,.int .i64 x.Ratio.Hi,.int .i64 x.Match.Lo,.int .i64 x.Match.Hi,.int .i64 x.Turn.Lo,.int .i64 x.Turn.Hi]
abbrev sift_val.ag (x:sift_val):Value:=.agg #[.int .i64 x.span.Lo,.int .i64 x.span.Hi,.bool x.has]
abbrev sift_reader.ar (x:sift_reader):Array Value:=#[.string x.s,.int .i64 x.at_,.string x.token,.int .i64 x.from_]
abbrev sift_scan.ax (x:sift_scan) (adg1_:Option Addr) (capg2_:Nat) (mg4_:Nat) (mg5_:Nat):Array Value:=#[.string x.s.Site.Name,.int .i64 x.s.Site.X,.int .i64 x.s.Site.Y,.int .i64 x.s.Site.Z,.int .i64 x.s.Site.Rose,.int .i64 x.s.Site.Gates,.int .i64 x.s.Site.Step,.int .i64 x.s.Site.Width,.int .i64 x.s.Tilt,.int .i64 x.s.Time,.slice adg1_ x.s.Rays.length capg2_,.int .i64 x.n,.map (some mg4_),.map (some mg5_)]
abbrev api_Sweep.ax (x:api_Sweep) (adg1_:Option Addr) (capg2_:Nat):Array Value:=#[.string x.Site.Name,.int .i64 x.Site.X,.int .i64 x.Site.Y,.int .i64 x.Site.Z,.int .i64 x.Site.Rose,.int .i64 x.Site.Gates,.int .i64 x.Site.Step,.int .i64 x.Site.Width,.int .i64 x.Tilt,.int .i64 x.Time,.slice adg1_ x.Rays.length capg2_]
abbrev sift_Rule.ax (x:sift_Rule) (adg1_:Option Addr) (capg2_:Nat):Array Value:=#[.string x.Name,.int .i64 x.When.Op,.int .i64 x.When.Value_,.int .i64 x.When.Rays,.int .i64 x.When.Gates,.slice adg1_ x.When.Args.length capg2_]
abbrev sift_Node.ax (x:sift_Node) (adg1_:Option Addr) (capg2_:Nat):Array Value:=#[.int .i64 x.Op,.int .i64 x.Value_,.int .i64 x.Rays,.int .i64 x.Gates,.slice adg1_ x.Args.length capg2_]
abbrev api_Site.e0 (x:api_Site):Bool:=((x.Name==ByteArray.empty)&&(((x.X:Int)==0)&&(((x.Y:Int)==0)&&(((x.Z:Int)==0)&&(((x.Rose:Int)==0)&&(((x.Gates:Int)==0)&&(((x.Step:Int)==0)&&(((x.Width:Int)==0)&&true))))))))
abbrev api_Echo.e0 (x:api_Echo):Bool:=(((x.Kind:Int)==0)&&(((x.Power.Lo:Int)==0)&&(((x.Power.Hi:Int)==0)&&(((x.Steps.1.Lo:Int)==0)&&(((x.Steps.1.Hi:Int)==0)&&(((x.Steps.2.Lo:Int)==0)&&(((x.Steps.2.Hi:Int)==0)&&(((x.Spread:Int)==0)&&(((x.Ratio.Lo:Int)==0)&&(((x.Ratio.Hi:Int)==0)&&(((x.Match.Lo:Int)==0)&&(((x.Match.Hi:Int)==0)&&(((x.Turn.Lo:Int)==0)&&(((x.Turn.Hi:Int)==0)&&true))))))))))))))
abbrev sift_reader.e0 (x:sift_reader):Bool:=((x.s==ByteArray.empty)&&(((x.at_:Int)==0)&&((x.token==ByteArray.empty)&&(((x.from_:Int)==0)&&true))))
abbrev z83:Array Value:=#[.int .i64 0,.int .i64 0,.int .i64 0,.int .i64 0,.int .i64 0,.int .i64 0,.int .i64 0,.int .i64 0,.int .i64 0,.int .i64 0,.int .i64 0,.int .i64 0,.int .i64 0,.int .i64 0]
abbrev z50:Array Value:=#[.string ByteArray.empty,.int .i64 0,.int .i64 0,.int .i64 0,.int .i64 0,.int .i64 0,.int .i64 0,.int .i64 0,.int .i64 0,.int .i64 0,.slice none 0 0]
abbrev z65:Array Value:=#[.string ByteArray.empty,.int .i64 0,.int .i64 0,.int .i64 0,.int .i64 0,.slice none 0 0]
abbrev z63:Array Value:=#[.int .i64 0,.int .i64 0,.int .i64 0,.int .i64 0,.slice none 0 0]
inductive Rp63:Frz→List Value→sift_Node→Prop
  | mk_ {μ:Frz} {x:sift_Node} (ad1:Option Addr) (cap2:Nat) (css3:List (List Value)):ArrM μ 5 (fN 5) ad1 cap2 css3→All2 (Rp63 μ) css3 x.Args→Rp63 μ [.int .i64 x.Op,.int .i64 x.Value_,.int .i64 x.Rays,.int .i64 x.Gates,.slice ad1 x.Args.length cap2] x
theorem Rp63.out {μ:Frz} {cs:List Value} {x:sift_Node} (h:Rp63 μ cs x):∃(ad1:Option Addr) (cap2:Nat) (css3:List (List Value)),cs=[.int .i64 x.Op,.int .i64 x.Value_,.int .i64 x.Rays,.int .i64 x.Gates,.slice ad1 x.Args.length cap2]∧ArrQ μ 5 Rp63 ad1 cap2 css3 x.Args:=by
  cases h with
  | mk_ a b c h1 h2=>exact ⟨a,b,c,rfl,h1,h2⟩
theorem Rp63.in_ {μ:Frz} {cs:List Value} {x:sift_Node} (h:∃(ad1:Option Addr) (cap2:Nat) (css3:List (List Value)),cs=[.int .i64 x.Op,.int .i64 x.Value_,.int .i64 x.Rays,.int .i64 x.Gates,.slice ad1 x.Args.length cap2]∧ArrQ μ 5 Rp63 ad1 cap2 css3 x.Args):Rp63 μ cs x:=by
  obtain ⟨a,b,c,rfl,h1,h2⟩:=h;exact .mk_ a b c h1 h2
theorem Rp63.mono_ {μ ν:Frz} (hle:μ.le ν):∀(x:sift_Node) (cs:List Value),Rp63 μ cs x→Rp63 ν cs x
  | x,cs,h=>by
    obtain ⟨a,b,c,rfl,h1,h2⟩:=h.out;refine .mk_ a b c (h1.mono hle) ?_;have go:∀(m:List sift_Node) (cs:List (List Value)),(∀y∈m,∀c,Rp63 μ c y→Rp63 ν c y)→All2 (Rp63 μ) cs m→All2 (Rp63 ν) cs m:=by
      intro m
      induction m with
      | nil=>intro cs _ h;cases h;exact .nil
      | cons y m ih=>intro cs hy h;cases h with|cons h3 h4=>exact .cons (hy y (by simp) _ h3) (ih _ (fun z hz=>hy z (by simp [hz])) h4)
    exact go _ c (fun y hy c=>Rp63.mono_ hle y c) h2
termination_by x=>SizeOf.sizeOf x
decreasing_by
  have h9:=List.sizeOf_lt_of_mem hy
  cases x
  simp +arith at *;omega
theorem Rp63.mono:Rel.Mono Rp63:=fun _ _ cs x hle h=>Rp63.mono_ hle x cs h
theorem Rp63.one:Rel.One 5 Rp63:=by
  intro μ cs x h;obtain ⟨a,b,c,rfl,h1⟩:=h.out
  all_goals rfl
def Rp65:Rel sift_Rule:=fun μ cs x=>∃(ad1:Option Addr) (cap2:Nat) (css3:List (List Value)),cs=[.string x.Name,.int .i64 x.When.Op,.int .i64 x.When.Value_,.int .i64 x.When.Rays,.int .i64 x.When.Gates,.slice ad1 x.When.Args.length cap2]∧ArrQ μ 5 Rp63 ad1 cap2 css3 x.When.Args
theorem Rp65.mono:Rel.Mono Rp65:=by
  intro μ ν cs x hle h;obtain ⟨ad1,cap2,css3,rfl,f0⟩:=h;exact ⟨ad1,cap2,css3,rfl,f0.mono Rp63.mono hle⟩
theorem Rp65.one:Rel.One 6 Rp65:=by
  intro μ cs x h;obtain ⟨ad1,cap2,css3,rfl,f0⟩:=h
  all_goals rfl
def Rp78:Rel (List api_Echo):=fun μ cs x=>∃(ad1:Option Addr) (cap2:Nat),cs=[.slice ad1 x.length cap2]∧ArrM μ 14 api_Echo.cells ad1 cap2 x
theorem Rp78.mono:Rel.Mono Rp78:=by
  intro μ ν cs x hle h;obtain ⟨ad1,cap2,rfl,f0⟩:=h;exact ⟨ad1,cap2,rfl,f0.mono hle⟩
def Rp183:Rel sift_scan:=fun μ cs x=>∃(ad1:Option Addr) (cap2:Nat) (css3:List (List Value)) (m4:Nat) (m5:Nat),cs=[.string x.s.Site.Name,.int .i64 x.s.Site.X,.int .i64 x.s.Site.Y,.int .i64 x.s.Site.Z,.int .i64 x.s.Site.Rose,.int .i64 x.s.Site.Gates,.int .i64 x.s.Site.Step,.int .i64 x.s.Site.Width,.int .i64 x.s.Tilt,.int .i64 x.s.Time,.slice ad1 x.s.Rays.length cap2,.int .i64 x.n,.map (some m4),.map (some m5)]∧ArrQ μ 1 Rp78 ad1 cap2 css3 x.s.Rays
theorem Rp183.mono:Rel.Mono Rp183:=by
  intro μ ν cs x hle h;obtain ⟨ad1,cap2,css3,m4,m5,rfl,f0⟩:=h;exact ⟨ad1,cap2,css3,m4,m5,rfl,f0.mono Rp78.mono hle⟩
def Rp57:Rel (List Int):=fun μ cs x=>∃(ad1:Option Addr) (cap2:Nat),cs=[.slice ad1 x.length cap2]∧ArrM μ 1 fI ad1 cap2 x
theorem Rp57.mono:Rel.Mono Rp57:=by
  intro μ ν cs x hle h;obtain ⟨ad1,cap2,rfl,f0⟩:=h;exact ⟨ad1,cap2,rfl,f0.mono hle⟩
theorem Rp57.one:Rel.One 1 Rp57:=by
  intro μ cs x h;obtain ⟨ad1,cap2,rfl,f0⟩:=h
  all_goals rfl
def Rp59:Rel sift_Verdict:=fun μ cs x=>∃(ad1:Option Addr) (cap2:Nat),cs=[.int .i64 x.Rule,.slice ad1 x.Doubts.length cap2]∧ArrM μ 1 fI ad1 cap2 x.Doubts
theorem Rp59.mono:Rel.Mono Rp59:=by
  intro μ ν cs x hle h;obtain ⟨ad1,cap2,rfl,f0⟩:=h;exact ⟨ad1,cap2,rfl,f0.mono hle⟩
theorem Rp59.one:Rel.One 2 Rp59:=by
  intro μ cs x h;obtain ⟨ad1,cap2,rfl,f0⟩:=h
  all_goals rfl
def Rp56:Rel (List sift_Verdict):=fun μ cs x=>∃(ad1:Option Addr) (cap2:Nat) (css3:List (List Value)),cs=[.slice ad1 x.length cap2]∧ArrQ μ 2 Rp59 ad1 cap2 css3 x
theorem Rp56.mono:Rel.Mono Rp56:=by
  intro μ ν cs x hle h;obtain ⟨ad1,cap2,css3,rfl,f0⟩:=h;exact ⟨ad1,cap2,css3,rfl,f0.mono Rp59.mono hle⟩
def Je (p0:ByteArray):Bool:=A6a p0
def Ba (p0:ByteArray) (p1:Int):Int:=Lib.indexByte p0.data.toList p1.toNat.toUInt8
def Am (F:Nat) (p0 p1:ByteArray):Option Bool:=match p1.data.toList with|[c]=>some (decide (0≤Lib.indexByte p0.data.toList c))|_=>none
def strconv_Itoa (F:Nat) (p0:Int):Option ByteArray:=if -9223372036854775808≤p0∧p0≤9223372036854775807 then some ⟨(Lib.itoa p0).toArray⟩ else none
def Tx (F:Nat) (p0:Bool×List Int):Option (Bool×List Int):=some (true,p0.2)
def Pa (F:Nat) (p0:Bool×List Int):Option ByteArray:=some (bst p0.2)
def Kh (a0:Int):Option Int :=
  some a0
def G1 (self_:(sift_Node→Int→Option Int)) (p0:sift_Node) (p1:Int) (k2:(Int→Int→Option Int)) (a1:Int) (a0:Int):Option Int :=
  bif (decide (a1<((p0.Args.length:Nat):Int))) then ((B5 p0.Args a1).bind fun a2 =>
  bif (decide (a0>p1)) then (Kh a0) else ((ck (p1-a0)).bind fun a3 =>
  (self_ a2 a3).bind fun a6 =>
  (ck (a0+a6)).bind fun a4 =>
  (ck (a1+1)).bind fun a5 =>
  k2 a5 a4)) else (Kh a0)
def D5 (self_:(sift_Node→Int→Option Int)) (p0:sift_Node) (p1:Int):Nat→Int→Int→Option Int
  | 0,_,_=>none
  | n+1,a0,a1=>G1 self_ p0 p1 (D5 self_ p0 p1 n) a0 a1
def Nx (F:Nat) (self_:sift_Node→Int→Option Int) (p0:sift_Node) (p1:Int):Option Int :=
  D5 self_ p0 p1 F 0 1
def El:Nat→sift_Node→Int→Option Int
  | 0,_,_=>none
  | F+1,p0,p1=>Nx F (El F) p0 p1
def beam_Name (F:Nat) (p0:ByteArray):Option Bool :=
  (gd (((bif (!(sEq p0 (⟨#[]⟩:ByteArray))) then (decide (((p0.size:Nat):Int)≤12)) else false)==true&&true)) (Tb p0 (0:Int)) default).bind fun u1 =>
  (gd (((bif (bif (!(sEq p0 (⟨#[]⟩:ByteArray))) then (decide (((p0.size:Nat):Int)≤12)) else false) then (decide (u1≥97)) else false)==true&&true)) (Tb p0 (0:Int)) default).bind fun u2 =>
  some (bif (bif (bif (bif (!(sEq p0 (⟨#[]⟩:ByteArray))) then (decide (((p0.size:Nat):Int)≤12)) else false) then (decide (u1≥97)) else false) then (decide (u2≤122)) else false) then (!(Je p0)) else false)
def Bm:(N8 ByteArray 28) :=
  (⟨[(⟨#[]⟩:ByteArray),(⟨#[116,114,117,101]⟩:ByteArray),(⟨#[102,97,108,115,101]⟩:ByteArray),(⟨#[110,111,116]⟩:ByteArray),(⟨#[97,110,100]⟩:ByteArray),(⟨#[111,114]⟩:ByteArray),(⟨#[115,111,109,101]⟩:ByteArray),(⟨#[97,108,108]⟩:ByteArray),(⟨#[60]⟩:ByteArray),(⟨#[60,61]⟩:ByteArray),(⟨#[62]⟩:ByteArray),(⟨#[62,61]⟩:ByteArray),(⟨#[61]⟩:ByteArray),(⟨#[33,61]⟩:ByteArray),(⟨#[]⟩:ByteArray),(⟨#[112,111,119,101,114]⟩:ByteArray),(⟨#[114,97,116,105,111]⟩:ByteArray),(⟨#[109,97,116,99,104]⟩:ByteArray),(⟨#[115,112,114,101,97,100]⟩:ByteArray),(⟨#[116,117,114,110]⟩:ByteArray),(⟨#[115,116,101,112]⟩:ByteArray),(⟨#[107,105,110,100]⟩:ByteArray),(⟨#[114,97,121]⟩:ByteArray),(⟨#[103,97,116,101]⟩:ByteArray),(⟨#[116,105,108,116]⟩:ByteArray),(⟨#[99,111,117,110,116]⟩:ByteArray),(⟨#[43]⟩:ByteArray),(⟨#[45]⟩:ByteArray)],rfl⟩:N8 ByteArray 28)
def Et:Option Int :=
  some (-1)
def Cl (p0:(List ByteArray)) (p1:ByteArray) (k2:(Int→Option Int)) (a0:Int):Option Int :=
  bif (decide (a0<((p0.length:Nat):Int))) then ((B5 p0 a0).bind fun a1 =>
  bif (sEq p1 a1) then (some a0) else ((ck (a0+1)).bind fun a2 =>
  k2 a2)) else (Et)
def C2 (p0:(List ByteArray)) (p1:ByteArray):Nat→Int→Option Int
  | 0,_=>none
  | n+1,a0=>Cl p0 p1 (C2 p0 p1 n) a0
def E6 (F:Nat) (p0:(List ByteArray)) (p1:ByteArray):Option Int :=
  C2 p0 p1 F 0
def Eg (F:Nat) (p0:ByteArray) (p1:Int) (p2:Int):Option Int :=
  (ck (p2+1)).bind fun x2 =>
  (Qw Bm.1 p1 x2).bind fun l3 =>
  (E6 F l3 p0).bind fun y4 =>
  bif (bif (decide (y4≥0)) then (!(sEq p0 (⟨#[]⟩:ByteArray))) else false) then ((ck (p1+y4)).bind fun x5 =>
  some x5) else (some 0)
def sift_word (F:Nat) (p0:ByteArray):Option Bool :=
  (Eg F p0 1 7).bind fun y1 =>
  (gd (((decide (y1>0))==false&&true)) (Eg F p0 15 25) default).bind fun y2 =>
  some (bif (decide (y1>0)) then true else (decide (y2>0)))
def Lc (p0:sift_Rule) (c0_:sift_Rule):Bool :=
  sEq p0.Name c0_.Name
def Na (a0:Int):Option Int :=
  (ck (a0+1)).bind fun a1 =>
  some a1
def Jo (self_:(sift_Node→Option Int)) (p0:sift_Node) (k2:(Int→Int→Option Int)) (a0:Int) (a1:Int):Option Int :=
  bif (decide (a1<((p0.Args.length:Nat):Int))) then ((B5 p0.Args a1).bind fun a3 =>
  (self_ a3).bind fun a2 =>
  (ck (a1+1)).bind fun a4 =>
  k2 (if a2>a0 then a2 else a0) a4) else (Na a0)
def Em (self_:(sift_Node→Option Int)) (p0:sift_Node):Nat→Int→Int→Option Int
  | 0,_,_=>none
  | n+1,a0,a1=>Jo self_ p0 (Em self_ p0 n) a0 a1
def Rh (F:Nat) (self_:sift_Node→Option Int) (p0:sift_Node):Option Int :=
  Em self_ p0 F 0 0
def Hl:Nat→sift_Node→Option Int
  | 0,_=>none
  | F+1,p0=>Rh F (Hl F) p0
def sift_isCondition (p0:sift_Node):Bool :=
  bif (decide (p0.Op≥1)) then (decide (p0.Op≤13)) else false
def sift_isValue (p0:sift_Node):Bool :=
  bif (decide (p0.Op≥14)) then (decide (p0.Op≤27)) else false
def J5 (p0:sift_Node):Option Bool :=
  bif (decide (p0.Op<26)) then (some true) else ((B5 p0.Args 1).bind fun a0 =>
  some (decide (a0.Op<26)))
def E2 (self_:(sift_Node→Option Bool)) (p0:sift_Node) (k2:(Int→Option Bool)) (a1:Int):Option Bool :=
  bif (decide (a1<((p0.Args.length:Nat):Int))) then ((B5 p0.Args a1).bind fun a0 =>
  (gd (((!(sift_isCondition a0))==false&&true)) (self_ a0) default).bind fun a3 =>
  bif (bif (!(sift_isCondition a0)) then true else (!a3)) then (some false) else ((ck (a1+1)).bind fun a2 =>
  k2 a2)) else (J5 p0)
def J9 (self_:(sift_Node→Option Bool)) (p0:sift_Node):Nat→Int→Option Bool
  | 0,_=>none
  | n+1,a0=>E2 self_ p0 (J9 self_ p0 n) a0
def J6 (p0:sift_Node):Option Bool :=
  bif (decide (p0.Op<26)) then (some true) else ((B5 p0.Args 1).bind fun a0 =>
  some (decide (a0.Op<26)))
def E3 (self_:(sift_Node→Option Bool)) (p0:sift_Node) (k4:(Int→Option Bool)) (a1:Int):Option Bool :=
  bif (decide (a1<((p0.Args.length:Nat):Int))) then ((B5 p0.Args a1).bind fun a0 =>
  (gd (((!(sift_isCondition a0))==false&&true)) (self_ a0) default).bind fun a3 =>
  bif (bif (!(sift_isCondition a0)) then true else (!a3)) then (some false) else ((ck (a1+1)).bind fun a2 =>
  k4 a2)) else (J6 p0)
def Ja (self_:(sift_Node→Option Bool)) (p0:sift_Node):Nat→Int→Option Bool
  | 0,_=>none
  | n+1,a0=>E3 self_ p0 (Ja self_ p0 n) a0
def J7 (p0:sift_Node):Option Bool :=
  bif (decide (p0.Op<26)) then (some true) else ((B5 p0.Args 1).bind fun a0 =>
  some (decide (a0.Op<26)))
def E4 (self_:(sift_Node→Option Bool)) (p0:sift_Node) (k6:(Int→Option Bool)) (a1:Int):Option Bool :=
  bif (decide (a1<((p0.Args.length:Nat):Int))) then ((B5 p0.Args a1).bind fun a0 =>
  (gd (((!(sift_isCondition a0))==false&&true)) (self_ a0) default).bind fun a3 =>
  bif (bif (!(sift_isCondition a0)) then true else (!a3)) then (some false) else ((ck (a1+1)).bind fun a2 =>
  k6 a2)) else (J7 p0)
def Jb (self_:(sift_Node→Option Bool)) (p0:sift_Node):Nat→Int→Option Bool
  | 0,_=>none
  | n+1,a0=>E4 self_ p0 (Jb self_ p0 n) a0
def J8 (p0:sift_Node):Option Bool :=
  bif (decide (p0.Op<26)) then (some true) else ((B5 p0.Args 1).bind fun a0 =>
  some (decide (a0.Op<26)))
def E5 (self_:(sift_Node→Option Bool)) (p0:sift_Node) (k8:(Int→Option Bool)) (a1:Int):Option Bool :=
  bif (decide (a1<((p0.Args.length:Nat):Int))) then ((B5 p0.Args a1).bind fun a0 =>
  (gd (((!(sift_isValue a0))==false&&true)) (self_ a0) default).bind fun a3 =>
  bif (bif (!(sift_isValue a0)) then true else (!a3)) then (some false) else ((ck (a1+1)).bind fun a2 =>
  k8 a2)) else (J8 p0)
def Jc (self_:(sift_Node→Option Bool)) (p0:sift_Node):Nat→Int→Option Bool
  | 0,_=>none
  | n+1,a0=>E5 self_ p0 (Jc self_ p0 n) a0
def Lj (p0:sift_Node):Option Bool :=
  bif (decide (p0.Op<26)) then (some true) else ((B5 p0.Args 1).bind fun a0 =>
  some (decide (a0.Op<26)))
def Hh (self_:(sift_Node→Option Bool)) (p0:sift_Node) (a2:(Int→Option Bool)) (a1:Int):Option Bool :=
  bif (decide (a1<((p0.Args.length:Nat):Int))) then ((B5 p0.Args a1).bind fun a0 =>
  (gd (((!(sift_isCondition a0))==false&&true)) (self_ a0) default).bind fun a4 =>
  bif (bif (!(sift_isCondition a0)) then true else (!a4)) then (some false) else ((ck (a1+1)).bind fun a3 =>
  a2 a3)) else (Lj p0)
def Kj (self_:(sift_Node→Option Bool)) (p0:sift_Node):Nat→Int→Option Bool
  | 0,_=>none
  | n+1,a0=>Hh self_ p0 (Kj self_ p0 n) a0
def Ki (p0:sift_Node):Option Bool :=
  bif (decide (p0.Op<26)) then (some true) else ((B5 p0.Args 1).bind fun a0 =>
  some (decide (a0.Op<26)))
def Hj (self_:(sift_Node→Option Bool)) (p0:sift_Node) (a2:(Int→Option Bool)) (a1:Int):Option Bool :=
  bif (decide (a1<((p0.Args.length:Nat):Int))) then ((B5 p0.Args a1).bind fun a0 =>
  (gd (((!(sift_isCondition a0))==false&&true)) (self_ a0) default).bind fun a4 =>
  bif (bif (!(sift_isCondition a0)) then true else (!a4)) then (some false) else ((ck (a1+1)).bind fun a3 =>
  a2 a3)) else (Ki p0)
def Kk (self_:(sift_Node→Option Bool)) (p0:sift_Node):Nat→Int→Option Bool
  | 0,_=>none
  | n+1,a0=>Hj self_ p0 (Kk self_ p0 n) a0
def Eo (F:Nat) (self_:sift_Node→Option Bool) (p0:sift_Node):Option Bool :=
  bif (p0.Op==3) then (bif (bif (bif (bif (((p0.Args.length:Nat):Int) != 1) then true else (decide ((if p0.Gates<if p0.Rays<p0.Value_ then p0.Rays else p0.Value_ then p0.Gates else if p0.Rays<p0.Value_ then p0.Rays else p0.Value_)<0))) then true else (decide (p0.Value_>0))) then true else (decide ((if p0.Gates>p0.Rays then p0.Gates else p0.Rays)>0))) then (some false) else (J9 self_ p0 F 0)) else (bif (bif (p0.Op==4) then true else (p0.Op==5)) then (bif (bif (bif (bif (((p0.Args.length:Nat):Int) != 2) then true else (decide ((if p0.Gates<if p0.Rays<p0.Value_ then p0.Rays else p0.Value_ then p0.Gates else if p0.Rays<p0.Value_ then p0.Rays else p0.Value_)<0))) then true else (decide (p0.Value_>0))) then true else (decide ((if p0.Gates>p0.Rays then p0.Gates else p0.Rays)>0))) then (some false) else (Ja self_ p0 F 0)) else (bif (bif (bif (p0.Op==6) then true else (p0.Op==7)) then true else (p0.Op==25)) then (bif (bif (bif (bif (((p0.Args.length:Nat):Int) != 1) then true else (decide ((if p0.Gates<if p0.Rays<p0.Value_ then p0.Rays else p0.Value_ then p0.Gates else if p0.Rays<p0.Value_ then p0.Rays else p0.Value_)<0))) then true else (decide (p0.Value_>0))) then true else (decide ((if p0.Gates>p0.Rays then p0.Gates else p0.Rays)>3))) then (some false) else (Jb self_ p0 F 0)) else (bif (bif (bif (bif (decide (p0.Op≥8)) then (decide (p0.Op≤13)) else false) then true else (p0.Op==26)) then true else (p0.Op==27)) then (bif (bif (bif (bif (((p0.Args.length:Nat):Int) != 2) then true else (decide ((if p0.Gates<if p0.Rays<p0.Value_ then p0.Rays else p0.Value_ then p0.Gates else if p0.Rays<p0.Value_ then p0.Rays else p0.Value_)<0))) then true else (decide (p0.Value_>0))) then true else (decide ((if p0.Gates>p0.Rays then p0.Gates else p0.Rays)>0))) then (some false) else (Jc self_ p0 F 0)) else (bif (p0.Op==14) then (bif (bif (bif (bif (((p0.Args.length:Nat):Int) != 0) then true else (decide ((if p0.Gates<if p0.Rays<p0.Value_ then p0.Rays else p0.Value_ then p0.Gates else if p0.Rays<p0.Value_ then p0.Rays else p0.Value_)<0))) then true else (decide (p0.Value_>1000000000))) then true else (decide ((if p0.Gates>p0.Rays then p0.Gates else p0.Rays)>0))) then (some false) else (Kj self_ p0 F 0)) else (bif (bif (!(sift_isCondition p0)) then (!(sift_isValue p0)) else false) then (some false) else (bif (bif (bif (bif (((p0.Args.length:Nat):Int) != 0) then true else (decide ((if p0.Gates<if p0.Rays<p0.Value_ then p0.Rays else p0.Value_ then p0.Gates else if p0.Rays<p0.Value_ then p0.Rays else p0.Value_)<0))) then true else (decide (p0.Value_>0))) then true else (decide ((if p0.Gates>p0.Rays then p0.Gates else p0.Rays)>0))) then (some false) else (Kk self_ p0 F 0)))))))
def Dl:Nat→sift_Node→Option Bool
  | 0,_=>none
  | F+1,p0=>Eo F (Dl F) p0
def Cf:Option Int :=
  some (-1)
def Bh (p0:(List sift_Rule)) (c1_0_:sift_Rule) (k2:(Int→Option Int)) (a0:Int):Option Int :=
  bif (decide (a0<((p0.length:Nat):Int))) then ((B5 p0 a0).bind fun a1 =>
  bif (Lc a1 c1_0_) then (some a0) else ((ck (a0+1)).bind fun a2 =>
  k2 a2)) else (Cf)
def B1 (p0:(List sift_Rule)) (c1_0_:sift_Rule):Nat→Int→Option Int
  | 0,_=>none
  | n+1,a0=>Bh p0 c1_0_ (B1 p0 c1_0_ n) a0
def Bw (F:Nat) (p0:(List sift_Rule)) (c1_0_:sift_Rule):Option Int :=
  B1 p0 c1_0_ F 0
def Bo (F:Nat) (p0:(List sift_Rule)) (c1_0_:sift_Rule):Option Bool :=
  (Bw F p0 c1_0_).bind fun a0 =>
  some (decide (a0≥0))
def Ph:Option Int :=
  some 0
def K4 (F:Nat) (p0:(List sift_Rule)) (k3:(Int→Option Int)) (a1:Int):Option Int :=
  bif (decide (a1<((p0.length:Nat):Int))) then ((B5 p0 a1).bind fun a0 =>
  (beam_Name F a0.Name).bind fun a2 =>
  (gd (((!a2)==false&&true)) (sift_word F a0.Name) default).bind fun a5 =>
  bif (bif (!a2) then true else a5) then (some 10) else ((Qw p0 (0:Int) a1).bind fun a3 =>
  (Bo F a3 a0).bind fun a6 =>
  bif a6 then (some 5) else ((Hl F a0.When).bind fun a7 =>
  bif (decide (a7>12)) then (some 24) else ((gd (((!(sift_isCondition a0.When))==false&&true)) (Dl F a0.When) default).bind fun a8 =>
  bif (bif (!(sift_isCondition a0.When)) then true else (!a8)) then (some 2) else ((ck (a1+1)).bind fun a4 =>
  k3 a4))))) else (Ph)
def K6 (F:Nat) (p0:(List sift_Rule)):Nat→Int→Option Int
  | 0,_=>none
  | n+1,a0=>K4 F p0 (K6 F p0 n) a0
def Pg (F:Nat) (p0:(List sift_Rule)):Option Int :=
  K6 F p0 F 0
def K5 (F:Nat) (p0:(List sift_Rule)) (k4:(Int→Int→Option Int)) (a0:Int) (a3:Int):Option Int :=
  bif (decide (a0<((p0.length:Nat):Int))) then ((B5 p0 a0).bind fun a2 =>
  (El F a2.When 300).bind fun a5 =>
  (ck (a3+a5)).bind fun a1 =>
  bif (decide (a1>300)) then (some 9) else ((ck (a0+1)).bind fun a4 =>
  k4 a4 a1)) else (Pg F p0)
def K7 (F:Nat) (p0:(List sift_Rule)):Nat→Int→Int→Option Int
  | 0,_,_=>none
  | n+1,a0,a1=>K5 F p0 (K7 F p0 n) a0 a1
def Gx (F:Nat) (p0:(List sift_Rule)):Option Int :=
  bif (decide (((p0.length:Nat):Int)>32)) then (some 9) else (K7 F p0 F 0 0)
def Cq (F:Nat) (p0:(Bool×List Int)) (p1:ByteArray):Option (Int×Unit×(Bool×List Int)) :=
  (Tx F (p0.1,p0.2)).bind fun y3 =>
  (apd 1 y3.2 (sby p1)).bind fun l9 =>
  some (((p1.size:Nat):Int),(),(y3.1,l9))
def Fo (F:Nat) (self_:sift_Node→Option ByteArray) (p0:sift_Node):Option ByteArray :=
  (X1 Bm p0.Op).bind fun u6 =>
  bif (p0.Op==14) then ((strconv_Itoa F p0.Value_).bind fun y7 =>
  some y7) else (bif (p0.Op==3) then ((Lp u6 (⟨#[32]⟩:ByteArray)).bind fun s8 =>
  (B5 p0.Args 0).bind fun u9 =>
  (self_ u9).bind fun aG =>
  (Lp s8 aG).bind fun a1 =>
  some a1) else (bif (((p0.Args.length:Nat):Int)==1) then ((Lp u6 (⟨#[32]⟩:ByteArray)).bind fun a2 =>
  (strconv_Itoa F p0.Rays).bind fun aH =>
  (Lp a2 aH).bind fun a3 =>
  (Lp a3 (⟨#[32]⟩:ByteArray)).bind fun a4 =>
  (strconv_Itoa F p0.Gates).bind fun aI =>
  (Lp a4 aI).bind fun a5 =>
  (Lp a5 (⟨#[32]⟩:ByteArray)).bind fun a6 =>
  (B5 p0.Args 0).bind fun aD =>
  (self_ aD).bind fun aJ =>
  (Lp a6 aJ).bind fun a7 =>
  some a7) else (bif (((p0.Args.length:Nat):Int)==0) then (some u6) else ((B5 p0.Args 0).bind fun aE =>
  (self_ aE).bind fun aK =>
  (Lp aK (⟨#[32]⟩:ByteArray)).bind fun a8 =>
  (Lp a8 u6).bind fun a9 =>
  (Lp a9 (⟨#[32]⟩:ByteArray)).bind fun aA =>
  (B5 p0.Args 1).bind fun aF =>
  (self_ aF).bind fun aL =>
  (Lp aA aL).bind fun a0 =>
  bif (decide (p0.Op<14)) then ((Lp (⟨#[40]⟩:ByteArray) a0).bind fun aB =>
  (Lp aB (⟨#[41]⟩:ByteArray)).bind fun aC =>
  some aC) else (some a0)))))
def Gk:Nat→sift_Node→Option ByteArray
  | 0,_=>none
  | F+1,p0=>Fo F (Gk F) p0
def G5 (F:Nat) (p0:(Bool×List Int)):Option (Int×(Bool×List Int)) :=
  some (((p0.2.length:Nat):Int),(p0.1,p0.2))
def Mf (F:Nat) (a1:Bool) (a2:(List Int)):Option (ByteArray×Int) :=
  (G5 F (a1,a2)).bind fun a0 =>
  bif (decide (a0.1>65536)) then (some ((⟨#[]⟩:ByteArray),8)) else ((Pa F (a0.2.1,a0.2.2)).bind fun a3 =>
  some (a3,0))
def K9 (F:Nat) (p0:(List sift_Rule)) (k2:(Bool→(List Int)→Int→Option (ByteArray×Int))) (a1:Bool) (a2:(List Int)) (a0:Int):Option (ByteArray×Int) :=
  bif (decide (a0<((p0.length:Nat):Int))) then ((B5 p0 a0).bind fun a3 =>
  (Lp a3.Name (⟨#[58,32]⟩:ByteArray)).bind fun a5 =>
  (Gk F a3.When).bind fun a9 =>
  (Lp a5 a9).bind fun a6 =>
  (Lp a6 (⟨#[59,10]⟩:ByteArray)).bind fun a7 =>
  (Cq F (a1,a2) a7).bind fun a4 =>
  (ck (a0+1)).bind fun a8 =>
  k2 a4.2.2.1 a4.2.2.2 a8) else (Mf F a1 a2)
def Ka (F:Nat) (p0:(List sift_Rule)):Nat→Bool→(List Int)→Int→Option (ByteArray×Int)
  | 0,_,_,_=>none
  | n+1,a0,a1,a2=>K9 F p0 (Ka F p0 n) a0 a1 a2
def Gy (F:Nat) (p0:(List sift_Rule)):Option (ByteArray×Int) :=
  (Gx F p0).bind fun y5 =>
  bif (y5 != 0) then (some ((⟨#[]⟩:ByteArray),y5)) else (Ka F p0 F false ([]) 0)
def Rk (p0:sift_Node) (a0:Int) (a1:Int):Option (Int×Int) :=
  (ck (a0+p0.Rays)).bind fun a2 =>
  (ck (a1+p0.Gates)).bind fun a3 =>
  some (a2,a3)
def Rj (self_:(sift_Node→Option (Int×Int))) (p0:sift_Node) (k2:(Int→Int→Int→Option (Int×Int))) (a1:Int) (a2:Int) (a3:Int):Option (Int×Int) :=
  bif (decide (a1<((p0.Args.length:Nat):Int))) then ((B5 p0.Args a1).bind fun a4 =>
  (self_ a4).bind fun a0 =>
  (ck (a1+1)).bind fun a5 =>
  k2 a5 (if a0.1>a2 then a0.1 else a2) (if a0.2>a3 then a0.2 else a3)) else (Rk p0 a2 a3)
def P8 (self_:(sift_Node→Option (Int×Int))) (p0:sift_Node):Nat→Int→Int→Int→Option (Int×Int)
  | 0,_,_,_=>none
  | n+1,a0,a1,a2=>Rj self_ p0 (P8 self_ p0 n) a0 a1 a2
def Sw (F:Nat) (self_:sift_Node→Option (Int×Int)) (p0:sift_Node):Option (Int×Int) :=
  P8 self_ p0 F 0 0 0
def Ri:Nat→sift_Node→Option (Int×Int)
  | 0,_=>none
  | F+1,p0=>Sw F (Ri F) p0
def Ps (a0:Int) (a1:Int):Option (Int×Int×Int) :=
  some (a0,a1,0)
def Pr (F:Nat) (p0:(List sift_Rule)) (k2:(Int→Int→Int→Option (Int×Int×Int))) (a1:Int) (a2:Int) (a3:Int):Option (Int×Int×Int) :=
  bif (decide (a1<((p0.length:Nat):Int))) then ((B5 p0 a1).bind fun a4 =>
  (Ri F a4.When).bind fun a0 =>
  (ck (a1+1)).bind fun a5 =>
  k2 a5 (if a0.1>a2 then a0.1 else a2) (if a0.2>a3 then a0.2 else a3)) else (Ps a2 a3)
def Mg (F:Nat) (p0:(List sift_Rule)):Nat→Int→Int→Int→Option (Int×Int×Int)
  | 0,_,_,_=>none
  | n+1,a0,a1,a2=>Pr F p0 (Mg F p0 n) a0 a1 a2
def Su (F:Nat) (p0:(List sift_Rule)):Option (Int×Int×Int) :=
  (Gx F p0).bind fun y5 =>
  bif (y5 != 0) then (some (0,0,y5)) else (Mg F p0 F 0 0 0)
abbrev D9:=sift_Node→Option sift_Node
abbrev Cr:=sift_Node→Option sift_Node
def Lg (a0:(List sift_Node)):Option (List sift_Node) :=
  some a0
def Lf (s68_:D9) (p0:sift_Node) (k2:(Int→(List sift_Node)→Option (List sift_Node))) (a0:Int) (a1:(List sift_Node)):Option (List sift_Node) :=
  bif (decide (a0<((p0.Args.length:Nat):Int))) then ((B5 p0.Args a0).bind fun a3 =>
  (s68_ a3).bind fun a5 =>
  (apd 56 a1 ([a5])).bind fun a2 =>
  (ck (a0+1)).bind fun a4 =>
  k2 a4 a2) else (Lg a1)
def Hr (s68_:D9) (p0:sift_Node):Nat→Int→(List sift_Node)→Option (List sift_Node)
  | 0,_,_=>none
  | n+1,a1,a0=>Lf s68_ p0 (Hr s68_ p0 n) a1 a0
def Le (F:Nat) (s68_:D9) (s102_:Cr) (p0:sift_Node):Option (List sift_Node) :=
  Hr s68_ p0 F 0 ([])
def Ql (F:Nat) (s68_:D9) (s102_:Cr) (p0:sift_Node):Option sift_Node :=
  bif (p0.Op==3) then ((B5 p0.Args 0).bind fun u8 =>
  bif (decide (u8.Op<8)) then ((B5 p0.Args 0).bind fun a0 =>
  (s102_ a0).bind fun a1 =>
  some a1) else ((Le F s68_ s102_ p0).bind fun a2 =>
  some (sift_Node.mk p0.Op p0.Value_ p0.Rays p0.Gates a2))) else ((Le F s68_ s102_ p0).bind fun a3 =>
  some (sift_Node.mk p0.Op p0.Value_ p0.Rays p0.Gates a3))
def Kv (a0:(List sift_Node)):Option (List sift_Node) :=
  some a0
def Ku (s102_:Cr) (p0:sift_Node) (k2:(Int→(List sift_Node)→Option (List sift_Node))) (a0:Int) (a1:(List sift_Node)):Option (List sift_Node) :=
  bif (decide (a0<((p0.Args.length:Nat):Int))) then ((B5 p0.Args a0).bind fun a3 =>
  (s102_ a3).bind fun a5 =>
  (apd 56 a1 ([a5])).bind fun a2 =>
  (ck (a0+1)).bind fun a4 =>
  k2 a4 a2) else (Kv a1)
def Gz (s102_:Cr) (p0:sift_Node):Nat→Int→(List sift_Node)→Option (List sift_Node)
  | 0,_,_=>none
  | n+1,a1,a0=>Ku s102_ p0 (Gz s102_ p0 n) a1 a0
def My (F:Nat) (s68_:D9) (s102_:Cr) (p0:sift_Node):Option (List sift_Node) :=
  Gz s102_ p0 F 0 ([])
def Ny (F:Nat) (s68_:D9) (s102_:Cr) (p0:sift_Node):Option sift_Node :=
  bif (p0.Op==3) then ((B5 p0.Args 0).bind fun u7 =>
  (s68_ u7).bind fun a1 =>
  some a1) else (bif (decide (p0.Op≥8)) then ((s68_ p0).bind fun a2 =>
  some (sift_Node.mk 3 0 0 0 ([a2]))) else ((X1 (⟨[(0:Int),3,3,(0:Int),1,1,1,1],rfl⟩:N8 Int 8) p0.Op).bind fun a0 =>
  (My F s68_ s102_ (sift_Node.mk (Ym .i64 p0.Op a0) p0.Value_ p0.Rays p0.Gates p0.Args)).bind fun a3 =>
  some (sift_Node.mk (Ym .i64 p0.Op a0) p0.Value_ p0.Rays p0.Gates a3)))
def Cs:Nat→D9×Cr
  | 0=>(fun _=>none,fun _=>none)
  | F+1=>(Ql F (Cs F).1 (Cs F).2,Ny F (Cs F).1 (Cs F).2)
def Vs (F:Nat):D9:=(Cs F).1
def Pq (a0:(List sift_Rule)):Option ((List sift_Rule)×Int) :=
  some (a0,0)
def Pp (F:Nat) (p0:(List sift_Rule)) (k2:(Int→(List sift_Rule)→Option ((List sift_Rule)×Int))) (a0:Int) (a1:(List sift_Rule)):Option ((List sift_Rule)×Int) :=
  bif (decide (a0<((p0.length:Nat):Int))) then ((B5 p0 a0).bind fun a2 =>
  (Vs F a2.When).bind fun a5 =>
  (apd 72 a1 ([(sift_Rule.mk a2.Name a5)])).bind fun a3 =>
  (ck (a0+1)).bind fun a4 =>
  k2 a4 a3) else (Pq a1)
def Me (F:Nat) (p0:(List sift_Rule)):Nat→Int→(List sift_Rule)→Option ((List sift_Rule)×Int)
  | 0,_,_=>none
  | n+1,a1,a0=>Pp F p0 (Me F p0 n) a1 a0
def Ss (F:Nat) (p0:(List sift_Rule)):Option ((List sift_Rule)×Int) :=
  (Gx F p0).bind fun y5 =>
  bif (y5 != 0) then (some (([]:(List sift_Rule)),y5)) else (Me F p0 F 0 ([]))
def Bc (p0:Int) (p1:Int) (p2:Int):Bool :=
  bif (decide (p1≤p0)) then (decide (p0≤p2)) else false
def Eu (c4:Bool):Option Int :=
  bif c4 then (some 3) else (some 0)
def G2 (p0:api_Site) (c3:Bool):Option Int :=
  bif c3 then (some 3) else (bif (!(Bc p0.Rose 1 90)) then (Eu (!(Bc p0.Rose 1 90))) else (bif (!(Bc p0.Gates 1 200)) then (Eu (!(Bc p0.Gates 1 200))) else (bif (!(Bc p0.Step 50 2000)) then (Eu (!(Bc p0.Step 50 2000))) else (Eu (!(Bc p0.Width 0 8))))))
def Nh (F:Nat) (p0:api_Site):Option Int :=
  (beam_Name F p0.Name).bind fun y2 =>
  bif (!y2) then (some 10) else (bif (!(Bc p0.X (-1048576) 1048576)) then (G2 p0 (!(Bc p0.X (-1048576) 1048576))) else (bif (!(Bc p0.Y (-1048576) 1048576)) then (G2 p0 (!(Bc p0.Y (-1048576) 1048576))) else (G2 p0 (!(Bc p0.Z 0 20000)))))
def B7 (p0:Int) (p1:Int) (p2:Int):Bool :=
  bif (decide (p1≤p0)) then (decide (p0≤p2)) else false
def Al (p0:api_Span) (p1:Int) (p2:Int):Bool :=
  bif (bif (decide (p1≤p0.Lo)) then (decide (p0.Lo≤p0.Hi)) else false) then (decide (p0.Hi≤p2)) else false
def M0:Option Bool :=
  some true
def Lz (p0:(List api_Span)) (k2:(Int→Option Bool)) (a1:Int):Option Bool :=
  bif (decide (a1<((p0.length:Nat):Int))) then ((B5 p0 a1).bind fun a0 =>
  (gd (((!(B7 a0.Lo (-32768) 32767))==false&&true)) (ck (a0.Lo+65536)) 0).bind fun a2 =>
  (gd (((!(B7 a0.Lo (-32768) 32767))==false&&true)) (ck (a2-1)) 0).bind fun a3 =>
  bif (bif (!(B7 a0.Lo (-32768) 32767)) then true else (!(B7 a0.Hi a0.Lo a3))) then (some false) else ((ck (a1+1)).bind fun a4 =>
  k2 a4)) else (M0)
def Jn (p0:(List api_Span)):Nat→Int→Option Bool
  | 0,_=>none
  | n+1,a0=>Lz p0 (Jn p0 n) a0
def Pf (F:Nat) (p0:(List api_Span)):Option Bool :=
  Jn p0 F 0
def Ee (c7:Bool):Option Int :=
  bif (!c7) then (some 3) else (some 0)
def Gw (F:Nat) (p0:api_Echo) (c9:Bool):Option Int :=
  bif c9 then (bif (p0.Kind==2) then (Ee (bif (bif (bif (bif (bif (bif (Al p0.Power 0 1073741824) then (decide (p0.Power.Lo>0)) else false) then (Al p0.Ratio 0 1000000) else false) then (Al p0.Match 0 1000) else false) then (B7 p0.Spread 0 65535) else false) then ((((p0.Steps.1.Lo:Int)==0)&&(((p0.Steps.1.Hi:Int)==0)&&true))&&((((p0.Steps.2.Lo:Int)==0)&&(((p0.Steps.2.Hi:Int)==0)&&true))&&true)) else false) then (((p0.Turn.Lo:Int)==0)&&(((p0.Turn.Hi:Int)==0)&&true)) else false)) else (bif (bif (bif (bif (bif (Al p0.Power 0 1073741824) then (decide (p0.Power.Lo>0)) else false) then (Al p0.Ratio 0 1000000) else false) then (Al p0.Match 0 1000) else false) then (B7 p0.Spread 0 65535) else false) then ((Pf F ([(api_Span.mk p0.Steps.1.Lo p0.Steps.1.Hi),(api_Span.mk p0.Steps.2.Lo p0.Steps.2.Hi),p0.Turn])).bind fun a0 =>
  Ee a0) else (Ee false))) else (some 2)
def Mu (F:Nat) (p0:api_Echo):Option Int :=
  bif (p0.Kind==1) then (Ee (bif (Al p0.Power 0 1073741824) then (((p0.Kind:Int)==1)&&((((p0.Power.Lo:Int)==0)&&(((p0.Power.Hi:Int)==p0.Power.Hi)&&true))&&(((((p0.Steps.1.Lo:Int)==0)&&(((p0.Steps.1.Hi:Int)==0)&&true))&&((((p0.Steps.2.Lo:Int)==0)&&(((p0.Steps.2.Hi:Int)==0)&&true))&&true))&&(((p0.Spread:Int)==0)&&((((p0.Ratio.Lo:Int)==0)&&(((p0.Ratio.Hi:Int)==0)&&true))&&((((p0.Match.Lo:Int)==0)&&(((p0.Match.Hi:Int)==0)&&true))&&((((p0.Turn.Lo:Int)==0)&&(((p0.Turn.Hi:Int)==0)&&true))&&true))))))) else false)) else (bif (p0.Kind==2) then (Gw F p0 (p0.Kind==2)) else (Gw F p0 (p0.Kind==3)))
def Jw:Option Int :=
  some 0
def Jx (a0:Int) (k3:(Int→Option Int)):Option Int :=
  (ck (a0+1)).bind fun a1 =>
  k3 a1
def Jt (F:Nat) (a4:Int) (k3:(Int→Option Int)) (a2:(List api_Echo)) (k5:(Int→Option Int)) (a1:Int):Option Int :=
  bif (decide (a1<((a2.length:Nat):Int))) then ((B5 a2 a1).bind fun a0 =>
  (Mu F (api_Echo.mk a0.Kind a0.Power ((api_Span.mk a0.Steps.1.Lo a0.Steps.1.Hi),(api_Span.mk a0.Steps.2.Lo a0.Steps.2.Hi)) a0.Spread a0.Ratio a0.Match a0.Turn)).bind fun a3 =>
  bif (a3 != 0) then (some a3) else ((ck (a1+1)).bind fun a5 =>
  k5 a5)) else (Jx a4 k3)
def Gh (F:Nat) (a1:Int) (k3:(Int→Option Int)) (a0:(List api_Echo)):Nat→Int→Option Int
  | 0,_=>none
  | n+1,a2=>Jt F a1 k3 a0 (Gh F a1 k3 a0 n) a2
def Js (F:Nat) (p0:api_Sweep) (k3:(Int→Option Int)) (a0:Int):Option Int :=
  bif (decide (a0<((p0.Rays.length:Nat):Int))) then ((B5 p0.Rays a0).bind fun a1 =>
  Gh F a0 k3 a1 F 0) else (Jw)
def Gg (F:Nat) (p0:api_Sweep):Nat→Int→Option Int
  | 0,_=>none
  | n+1,a0=>Js F p0 (Gg F p0 n) a0
def Jv (F:Nat) (p0:api_Sweep):Option Int :=
  Gg F p0 F 0
def Ju (F:Nat) (p0:api_Sweep) (k6:(Int→Option Int)) (a0:Int):Option Int :=
  bif (decide (a0<((p0.Rays.length:Nat):Int))) then ((B5 p0.Rays a0).bind fun a1 =>
  bif (((a1.length:Nat):Int) != p0.Site.Gates) then (some 11) else ((ck (a0+1)).bind fun a2 =>
  k6 a2)) else (Jv F p0)
def Gi (F:Nat) (p0:api_Sweep):Nat→Int→Option Int
  | 0,_=>none
  | n+1,a0=>Ju F p0 (Gi F p0 n) a0
def Jm (F:Nat) (p0:api_Sweep):Option Int :=
  (Nh F p0.Site).bind fun y6 =>
  bif (y6 != 0) then (some y6) else (bif (bif (!(B7 p0.Tilt 0 256)) then true else (!(B7 p0.Time 0 4294967296))) then (some 3) else ((ck (4*p0.Site.Rose)).bind fun x7 =>
  bif (((p0.Rays.length:Nat):Int) != x7) then (some 11) else (Gi F p0 F 0)))
def Nf (F:Nat) (p0:api_Sweep):Option sift_scan :=
  (ck (((p0.Rays.length:Nat):Int)*p0.Site.Gates)).bind fun x6 =>
  some (sift_scan.mk p0 x6 ([]:List (ByteArray×(List Int))) ([]:List (ByteArray×(List sift_val))))
def Ms (F:Nat) (p0:(Option sift_scan)) (p1:sift_Node):Option (List Int) :=
  (p0).bind fun d8 =>
  (mkI 8 d8.n 0).bind fun a0 =>
  some a0
def Kr (F:Nat) (p0:Int) (c0_:sift_Node):Option Int :=
  (B5 ([0,1,3]) c0_.Op).bind fun u6 =>
  some u6
def H3 (a0:(List Int)):Option (List Int) :=
  some a0
def H0 (F:Nat) (c1_0_:sift_Node) (k2:(Int→Int→(List Int)→Option (List Int))) (a2:Int) (a0:Int) (a1:(List Int)):Option (List Int) :=
  bif (decide (a0<a2)) then ((Kr F a0 c1_0_).bind fun a5 =>
  (B5 a1 a0).bind fun a6 =>
  (Mx a1 a0 a5).bind fun a3 =>
  (ck (a0+1)).bind fun a4 =>
  k2 a2 a4 a3) else (H3 a1)
def F8 (F:Nat) (c1_0_:sift_Node):Nat→Int→Int→(List Int)→Option (List Int)
  | 0,_,_,_=>none
  | n+1,a1,a2,a0=>H0 F c1_0_ (F8 F c1_0_ n) a1 a2 a0
def Jy (F:Nat) (p0:Int) (c1_0_:sift_Node):Option (List Int) :=
  (mkI 8 p0 0).bind fun l6 =>
  F8 F c1_0_ F ((l6.length:Nat):Int) 0 l6
def Jl (F:Nat) (p0:(Option sift_scan)) (p1:sift_Node):Option (List Int) :=
  (p0).bind fun d8 =>
  (Jy F d8.n p1).bind fun a0 =>
  some a0
def Lx (F:Nat) (p0:Int) (c0_:(List Int)):Option Int :=
  (B5 c0_ p0).bind fun u4 =>
  (ck (4-u4)).bind fun x5 =>
  some x5
def L8 (F:Nat) (p0:Int) (c0_:sift_Node) (c1_:(List Int)) (c2_:(List Int)):Option Int :=
  bif (c0_.Op==4) then ((B5 c1_ p0).bind fun a0 =>
  (B5 c2_ p0).bind fun a1 =>
  some (if a1>a0 then a1 else a0)) else ((B5 c1_ p0).bind fun a2 =>
  (B5 c2_ p0).bind fun a3 =>
  some (if a3<a2 then a3 else a2))
def Gv {σ:Type} (a1:Int) (k2:(Int→σ→Option (σ×Bool))) (a0:σ):Option (σ×Bool) :=
  (ck (a1+1)).bind fun a2 =>
  k2 a2 a0
def Gu {σ:Type} (body:(σ→Int→Option (σ×Bool))) (c1_:Int) (c3_:Int) (d3:sift_scan) (a7:Int) (a3:Int) (k2:(Int→σ→Option (σ×Bool))) (k4:(Int→σ→Option (σ×Bool))) (a0:Int) (a2:σ):Option (σ×Bool) :=
  (ck (d3.s.Site.Gates-1)).bind fun a4 =>
  (ck (a7+c3_)).bind fun a5 =>
  bif (decide (a0≤(if a5<a4 then a5 else a4))) then ((ck (a3+((d3.s.Rays.length:Nat):Int))).bind fun a8 =>
  (U8 a8 ((d3.s.Rays.length:Nat):Int)).bind fun a9 =>
  (ck (a9*d3.s.Site.Gates)).bind fun aA =>
  (ck (aA+a0)).bind fun a6 =>
  bif (a6 != c1_) then ((body a2 a6).bind fun a1 =>
  bif a1.2 then ((ck (a0+1)).bind fun aB =>
  k4 aB a1.1) else (some (a1.1,false))) else ((ck (a0+1)).bind fun aC =>
  k4 aC a2)) else (Gv a3 k2 a2)
def F6 {σ:Type} (body:(σ→Int→Option (σ×Bool))) (c1_:Int) (c3_:Int) (d3:sift_scan) (a0:Int) (a1:Int) (k2:(Int→σ→Option (σ×Bool))):Nat→Int→σ→Option (σ×Bool)
  | 0,_,_=>none
  | n+1,a3,a2=>Gu body c1_ c3_ d3 a0 a1 k2 (F6 body c1_ c3_ d3 a0 a1 k2 n) a3 a2
def Gt {σ:Type} (F:Nat) (body:(σ→Int→Option (σ×Bool))) (c1_:Int) (c3_:Int) (d3:sift_scan) (a1:Int) (a4:Int) (k2:(Int→σ→Option (σ×Bool))) (a2:Int) (a0:σ):Option (σ×Bool) :=
  bif (decide (a2≤a4)) then ((ck (a1-c3_)).bind fun a3 =>
  F6 body c1_ c3_ d3 a1 a2 k2 F (if a3>0 then a3 else 0) a0) else (some (a0,true))
def F5 {σ:Type} (F:Nat) (body:(σ→Int→Option (σ×Bool))) (c1_:Int) (c3_:Int) (d3:sift_scan) (a0:Int) (a1:Int):Nat→Int→σ→Option (σ×Bool)
  | 0,_,_=>none
  | n+1,a3,a2=>Gt F body c1_ c3_ d3 a0 a1 (F5 F body c1_ c3_ d3 a0 a1 n) a3 a2
def F4 {σ:Type} (F:Nat) (body:(σ→Int→Option (σ×Bool))) (s_:σ) (c1_:Int) (c3_:Int) (d3:sift_scan) (a0:Int) (a1:Int) (a2:Int):Option (σ×Bool) :=
  F5 F body c1_ c3_ d3 a0 a2 F a1 s_
def Ge {σ:Type} (F:Nat) (c0_:(Option sift_scan)) (c1_:Int) (c2_:Int) (c3_:Int) (body:σ→Int→Option (σ×Bool)) (s_:σ):Option (σ×Bool) :=
  (c0_).bind fun d3 =>
  (A0t c1_ d3.s.Site.Gates).bind fun a0 =>
  (U8 c1_ d3.s.Site.Gates).bind fun a1 =>
  (ck (a0-c2_)).bind fun a2 =>
  (ck (a0+c2_)).bind fun a3 =>
  (ck (a3-a2)).bind fun a4 =>
  bif (decide (a4≥((d3.s.Rays.length:Nat):Int))) then ((ck (((d3.s.Rays.length:Nat):Int)-1)).bind fun a5 =>
  F4 F body s_ c1_ c3_ d3 a1 0 a5) else (F4 F body s_ c1_ c3_ d3 a1 a2 a3)
def P5 (p0:(Option sift_scan)) (p1:Int) (p2:Int) (p3:Int):Unit :=
  ()
def J2 (c0_:sift_Node) (c2_:(List Int)) (s_r:(Int×Nat)) (x_:Int):Option ((Int×Nat)×Bool) :=
  bif (c0_.Op==6) then ((B5 c2_ x_).bind fun a0 =>
  some ((if a0<s_r.1 then a0 else s_r.1,0),true)) else ((B5 c2_ x_).bind fun a1 =>
  some ((if a1>s_r.1 then a1 else s_r.1,0),true))
def J3 (tg_:Nat):Code:=.ret
def G4 (F:Nat) (p0:Int) (c0_:sift_Node) (c1_:(Option sift_scan)) (c2_:(List Int)) (a1:Int):Option Int :=
  (Ge F c1_ p0 c0_.Rays c0_.Gates (J2 c0_ c2_) (a1,0)).bind fun a0 =>
  bif a0.2 then (some a0.1.1) else (none)
def L9 (F:Nat) (p0:Int) (c0_:sift_Node) (c1_:(Option sift_scan)) (c2_:(List Int)):Option Int :=
  bif (c0_.Op==7) then (G4 F p0 c0_ c1_ c2_ 1) else (G4 F p0 c0_ c1_ c2_ 3)
def A3 (p0:Int):sift_val :=
  (sift_val.mk (api_Span.mk p0 p0) true)
def Kq (F:Nat) (p0:Int) (c0_:(Option sift_scan)) (c1_:sift_Node):Option sift_val :=
  (c0_).bind fun d8 =>
  (A0t p0 d8.s.Site.Gates).bind fun a2 =>
  (B5 d8.s.Rays a2).bind fun a1 =>
  (U8 p0 d8.s.Site.Gates).bind fun a3 =>
  (B5 a1 a3).bind fun a0 =>
  bif (c1_.Op==14) then (some (A3 c1_.Value_)) else (bif (c1_.Op==21) then (some (A3 a0.Kind)) else (bif (c1_.Op==22) then ((A0t p0 d8.s.Site.Gates).bind fun a4 =>
  some (A3 a4)) else (bif (c1_.Op==23) then ((U8 p0 d8.s.Site.Gates).bind fun a5 =>
  some (A3 a5)) else (bif (c1_.Op==24) then (some (A3 d8.s.Tilt)) else (bif (c1_.Op==15) then (some (sift_val.mk a0.Power true)) else (bif (a0.Kind==1) then (some (sift_val.mk (api_Span.mk 0 0) false)) else (bif (c1_.Op==16) then (some (sift_val.mk a0.Ratio true)) else (bif (c1_.Op==17) then (some (sift_val.mk a0.Match true)) else (bif (c1_.Op==18) then (some (A3 a0.Spread)) else (bif (a0.Kind==2) then (some (sift_val.mk (api_Span.mk 0 0) false)) else (bif (c1_.Op==19) then (some (sift_val.mk a0.Turn true)) else (some (sift_val.mk (api_Span.mk a0.Steps.1.Lo a0.Steps.1.Hi) true)))))))))))))
def Ff (a0:(List sift_val)):Option (List sift_val) :=
  some a0
def Fe (F:Nat) (c1_0_:(Option sift_scan)) (c1_1_:sift_Node) (k2:(Int→Int→(List sift_val)→Option (List sift_val))) (a2:Int) (a0:Int) (a1:(List sift_val)):Option (List sift_val) :=
  bif (decide (a0<a2)) then ((Kq F a0 c1_0_ c1_1_).bind fun a5 =>
  (B5 a1 a0).bind fun a6 =>
  (Mx a1 a0 a5).bind fun a3 =>
  (ck (a0+1)).bind fun a4 =>
  k2 a2 a4 a3) else (Ff a1)
def Dm (F:Nat) (c1_0_:(Option sift_scan)) (c1_1_:sift_Node):Nat→Int→Int→(List sift_val)→Option (List sift_val)
  | 0,_,_,_=>none
  | n+1,a1,a2,a0=>Fe F c1_0_ c1_1_ (Dm F c1_0_ c1_1_ n) a1 a2 a0
def G8 (F:Nat) (p0:Int) (c1_0_:(Option sift_scan)) (c1_1_:sift_Node):Option (List sift_val) :=
  (mkI 24 p0 (sift_val.mk (api_Span.mk 0 0) false)).bind fun l8 =>
  Dm F c1_0_ c1_1_ F ((l8.length:Nat):Int) 0 l8
def Jk (F:Nat) (p0:(Option sift_scan)) (p1:sift_Node):Option (List sift_val) :=
  (p0).bind fun d9 =>
  (G8 F d9.n (some (sift_scan.mk d9.s d9.n ([]:(List (ByteArray×(List Int)))) ([]:(List (ByteArray×(List sift_val)))))) p1).bind fun a0 =>
  some a0
def Fy (c2_:(List Int)) (s_r:(Int×Int×Nat)) (x_:Int) (a0:Int):Option ((Int×Int×Nat)×Bool) :=
  (B5 c2_ x_).bind fun a1 =>
  bif (a1 != 3) then ((ck (s_r.2.1+1)).bind fun a2 =>
  some ((a0,a2,0),true)) else (some ((a0,s_r.2.1,0),true))
def Ho (c2_:(List Int)) (s_r:(Int×Int×Nat)) (x_:Int):Option ((Int×Int×Nat)×Bool) :=
  (B5 c2_ x_).bind fun a0 =>
  bif (a0==1) then ((ck (s_r.1+1)).bind fun a1 =>
  Fy c2_ s_r x_ a1) else (Fy c2_ s_r x_ s_r.1)
def Hp (tg_:Nat):Code:=.ret
def Kp (F:Nat) (p0:Int) (c0_:(Option sift_scan)) (c1_:sift_Node) (c2_:(List Int)):Option sift_val :=
  (Ge F c0_ p0 c1_.Rays c1_.Gates (Ho c2_) (0,0,0)).bind fun a0 =>
  bif a0.2 then (some (sift_val.mk (api_Span.mk a0.1.1 a0.1.2.1) true)) else (none)
def Gf (a0:sift_val) (a1:Int) (a2:Int):Option sift_val :=
  (ck (a0.span.Lo+a1)).bind fun a3 =>
  (ck (a0.span.Hi+a2)).bind fun a4 =>
  some (sift_val.mk (api_Span.mk a3 a4) true)
def Ly (F:Nat) (p0:Int) (c0_:(List sift_val)) (c1_:(List sift_val)) (c2_:sift_Node):Option sift_val :=
  (B5 c0_ p0).bind fun a1 =>
  (gd (((!a1.has)==false&&true)) (B5 c1_ p0) default).bind fun a3 =>
  bif (bif (!a1.has) then true else (!a3.has)) then (some (sift_val.mk (api_Span.mk 0 0) false)) else ((B5 c0_ p0).bind fun a2 =>
  (B5 c1_ p0).bind fun a0 =>
  bif (c2_.Op==27) then (Gf a2 (IntKind.i64.wrap (0-a0.span.Hi)) (IntKind.i64.wrap (0-a0.span.Lo))) else (Gf a2 a0.span.Lo a0.span.Hi))
def Ce (a0:Bool) (a1:Bool):Option Int :=
  bif a0 then (some 1) else (bif a1 then (some 2) else (some 3))
def F1 (c2_:sift_Node) (a0:Int) (a1:Int) (a2:Int) (a3:Int) (a4:Bool):Option Int :=
  bif a4 then (Ce (decide (a1≤a2)) (decide (a0≤a3))) else (bif (c2_.Op==12) then (Ce ((if a3>a1 then a3 else a1)==(if a2<a0 then a2 else a0)) (bif (decide (a0≤a3)) then (decide (a2≤a1)) else false)) else (bif (c2_.Op==13) then (Ce (bif (decide (a1<a2)) then true else (decide (a3<a0))) ((if a3>a1 then a3 else a1) != (if a2<a0 then a2 else a0))) else (Ce false false)))
def Ez (c2_:sift_Node) (a0:Int) (a1:Int) (a2:Int) (a3:Int) (a4:Bool):Option Int :=
  bif a4 then (Ce (decide (a1<a2)) (decide (a0<a3))) else (bif (c2_.Op==9) then (F1 c2_ a0 a1 a2 a3 (c2_.Op==9)) else (F1 c2_ a0 a1 a2 a3 (c2_.Op==11)))
def Ey (c2_:sift_Node) (a0:Int) (a1:Int) (a2:Int) (a3:Int):Option Int :=
  bif (c2_.Op==8) then (Ez c2_ a0 a1 a2 a3 (c2_.Op==8)) else (Ez c2_ a0 a1 a2 a3 (c2_.Op==10))
def J1 (F:Nat) (p0:Int) (c0_:(List sift_val)) (c1_:(List sift_val)) (c2_:sift_Node):Option Int :=
  (B5 c0_ p0).bind fun a2 =>
  (gd (((!a2.has)==false&&true)) (B5 c1_ p0) default).bind fun a3 =>
  bif (bif (!a2.has) then true else (!a3.has)) then (some 3) else ((B5 c0_ p0).bind fun a0 =>
  (B5 c1_ p0).bind fun a1 =>
  bif (bif (c2_.Op==10) then true else (c2_.Op==11)) then (Ey c2_ a1.span.Lo a1.span.Hi a0.span.Lo a0.span.Hi) else (Ey c2_ a0.span.Lo a0.span.Hi a1.span.Lo a1.span.Hi))
abbrev Ag:=sift_scan→sift_Node→Option ((List Int)×sift_scan)
abbrev Af:=sift_scan→sift_Node→Option ((List sift_val)×sift_scan)
def H5 (a0:(List Int)):Option (List Int) :=
  some a0
def H4 (F:Nat) (c1_0_:(List Int)) (k2:(Int→Int→(List Int)→Option (List Int))) (a2:Int) (a0:Int) (a1:(List Int)):Option (List Int) :=
  bif (decide (a0<a2)) then ((Lx F a0 c1_0_).bind fun a5 =>
  (B5 a1 a0).bind fun a6 =>
  (Mx a1 a0 a5).bind fun a3 =>
  (ck (a0+1)).bind fun a4 =>
  k2 a2 a4 a3) else (H5 a1)
def F9 (F:Nat) (c1_0_:(List Int)):Nat→Int→Int→(List Int)→Option (List Int)
  | 0,_,_,_=>none
  | n+1,a1,a2,a0=>H4 F c1_0_ (F9 F c1_0_ n) a1 a2 a0
def Jz (F:Nat) (s76_:Ag) (s84_:Af) (p0:Int) (c1_0_:(List Int)):Option (List Int) :=
  (mkI 8 p0 0).bind fun l5 =>
  F9 F c1_0_ F ((l5.length:Nat):Int) 0 l5
def Nt (F:Nat) (s76_:Ag) (s84_:Af) (p0:sift_scan) (p1:sift_Node):Option ((List Int)×sift_scan) :=
  (B5 p1.Args 0).bind fun a1 =>
  (s76_ p0 a1).bind fun a0 =>
  (Jz F s76_ s84_ p0.n a0.1).bind fun a2 =>
  some (a2,(sift_scan.mk p0.s p0.n a0.2.tests a0.2.values))
def H7 (a0:(List Int)):Option (List Int) :=
  some a0
def H6 (F:Nat) (c1_0_:sift_Node) (c1_1_:(List Int)) (c1_2_:(List Int)) (k2:(Int→Int→(List Int)→Option (List Int))) (a2:Int) (a0:Int) (a1:(List Int)):Option (List Int) :=
  bif (decide (a0<a2)) then ((L8 F a0 c1_0_ c1_1_ c1_2_).bind fun a5 =>
  (B5 a1 a0).bind fun a6 =>
  (Mx a1 a0 a5).bind fun a3 =>
  (ck (a0+1)).bind fun a4 =>
  k2 a2 a4 a3) else (H7 a1)
def Fa (F:Nat) (c1_0_:sift_Node) (c1_1_:(List Int)) (c1_2_:(List Int)):Nat→Int→Int→(List Int)→Option (List Int)
  | 0,_,_,_=>none
  | n+1,a1,a2,a0=>H6 F c1_0_ c1_1_ c1_2_ (Fa F c1_0_ c1_1_ c1_2_ n) a1 a2 a0
def K0 (F:Nat) (s76_:Ag) (s84_:Af) (p0:Int) (c1_0_:sift_Node) (c1_1_:(List Int)) (c1_2_:(List Int)):Option (List Int) :=
  (mkI 8 p0 0).bind fun a0 =>
  Fa F c1_0_ c1_1_ c1_2_ F ((a0.length:Nat):Int) 0 a0
def Kf (F:Nat) (s76_:Ag) (s84_:Af) (p0:sift_scan) (p1:sift_Node):Option ((List Int)×sift_scan) :=
  (B5 p1.Args 0).bind fun a2 =>
  (B5 p1.Args 1).bind fun a3 =>
  (s76_ p0 a2).bind fun a0 =>
  (s76_ (sift_scan.mk p0.s p0.n a0.2.tests a0.2.values) a3).bind fun a1 =>
  (K0 F s76_ s84_ p0.n p1 a0.1 a1.1).bind fun a4 =>
  some (a4,(sift_scan.mk p0.s p0.n a1.2.tests a1.2.values))
def H9 (a0:(List Int)):Option (List Int) :=
  some a0
def H8 (F:Nat) (c1_0_:sift_Node) (c1_1_:(Option sift_scan)) (c1_2_:(List Int)) (k2:(Int→Int→(List Int)→Option (List Int))) (a2:Int) (a0:Int) (a1:(List Int)):Option (List Int) :=
  bif (decide (a0<a2)) then ((L9 F a0 c1_0_ c1_1_ c1_2_).bind fun a5 =>
  (B5 a1 a0).bind fun a6 =>
  (Mx a1 a0 a5).bind fun a3 =>
  (ck (a0+1)).bind fun a4 =>
  k2 a2 a4 a3) else (H9 a1)
def Fb (F:Nat) (c1_0_:sift_Node) (c1_1_:(Option sift_scan)) (c1_2_:(List Int)):Nat→Int→Int→(List Int)→Option (List Int)
  | 0,_,_,_=>none
  | n+1,a1,a2,a0=>H8 F c1_0_ c1_1_ c1_2_ (Fb F c1_0_ c1_1_ c1_2_ n) a1 a2 a0
def K1 (F:Nat) (s76_:Ag) (s84_:Af) (p0:Int) (c1_0_:sift_Node) (c1_1_:(Option sift_scan)) (c1_2_:(List Int)):Option (List Int) :=
  (mkI 8 p0 0).bind fun a0 =>
  Fb F c1_0_ c1_1_ c1_2_ F ((a0.length:Nat):Int) 0 a0
def Kg (F:Nat) (s76_:Ag) (s84_:Af) (p0:sift_scan) (p1:sift_Node):Option ((List Int)×sift_scan) :=
  (B5 p1.Args 0).bind fun a1 =>
  (s76_ p0 a1).bind fun a0 =>
  (K1 F s76_ s84_ p0.n p1 (some (sift_scan.mk p0.s p0.n a0.2.tests a0.2.values)) a0.1).bind fun a2 =>
  some (a2,(sift_scan.mk p0.s p0.n a0.2.tests a0.2.values))
def Hb (a0:(List Int)):Option (List Int) :=
  some a0
def Ha (F:Nat) (c1_0_:(List sift_val)) (c1_1_:(List sift_val)) (c1_2_:sift_Node) (k2:(Int→Int→(List Int)→Option (List Int))) (a2:Int) (a0:Int) (a1:(List Int)):Option (List Int) :=
  bif (decide (a0<a2)) then ((J1 F a0 c1_0_ c1_1_ c1_2_).bind fun a5 =>
  (B5 a1 a0).bind fun a6 =>
  (Mx a1 a0 a5).bind fun a3 =>
  (ck (a0+1)).bind fun a4 =>
  k2 a2 a4 a3) else (Hb a1)
def Fc (F:Nat) (c1_0_:(List sift_val)) (c1_1_:(List sift_val)) (c1_2_:sift_Node):Nat→Int→Int→(List Int)→Option (List Int)
  | 0,_,_,_=>none
  | n+1,a1,a2,a0=>Ha F c1_0_ c1_1_ c1_2_ (Fc F c1_0_ c1_1_ c1_2_ n) a1 a2 a0
def K2 (F:Nat) (s76_:Ag) (s84_:Af) (p0:Int) (c1_0_:(List sift_val)) (c1_1_:(List sift_val)) (c1_2_:sift_Node):Option (List Int) :=
  (mkI 8 p0 0).bind fun a0 =>
  Fc F c1_0_ c1_1_ c1_2_ F ((a0.length:Nat):Int) 0 a0
def D4 (F:Nat) (s76_:Ag) (s84_:Af) (p0:sift_scan) (p1:sift_Node):Option ((List Int)×sift_scan) :=
  (B5 p1.Args 0).bind fun a2 =>
  (B5 p1.Args 1).bind fun a3 =>
  (s84_ p0 a2).bind fun a0 =>
  (s84_ (sift_scan.mk p0.s p0.n a0.2.tests a0.2.values) a3).bind fun a1 =>
  (K2 F s76_ s84_ p0.n a0.1 a1.1 p1).bind fun a4 =>
  some (a4,(sift_scan.mk p0.s p0.n a1.2.tests a1.2.values))
def Fh (a0:(List sift_val)):Option (List sift_val) :=
  some a0
def Fg (F:Nat) (c1_0_:(Option sift_scan)) (c1_1_:sift_Node) (c1_2_:(List Int)) (k2:(Int→Int→(List sift_val)→Option (List sift_val))) (a2:Int) (a0:Int) (a1:(List sift_val)):Option (List sift_val) :=
  bif (decide (a0<a2)) then ((Kp F a0 c1_0_ c1_1_ c1_2_).bind fun a5 =>
  (B5 a1 a0).bind fun a6 =>
  (Mx a1 a0 a5).bind fun a3 =>
  (ck (a0+1)).bind fun a4 =>
  k2 a2 a4 a3) else (Fh a1)
def Dn (F:Nat) (c1_0_:(Option sift_scan)) (c1_1_:sift_Node) (c1_2_:(List Int)):Nat→Int→Int→(List sift_val)→Option (List sift_val)
  | 0,_,_,_=>none
  | n+1,a1,a2,a0=>Fg F c1_0_ c1_1_ c1_2_ (Dn F c1_0_ c1_1_ c1_2_ n) a1 a2 a0
def G9 (F:Nat) (s76_:Ag) (s84_:Af) (p0:Int) (c1_0_:(Option sift_scan)) (c1_1_:sift_Node) (c1_2_:(List Int)):Option (List sift_val) :=
  (mkI 24 p0 (sift_val.mk (api_Span.mk 0 0) false)).bind fun a0 =>
  Dn F c1_0_ c1_1_ c1_2_ F ((a0.length:Nat):Int) 0 a0
def Lw (F:Nat) (s76_:Ag) (s84_:Af) (p0:sift_scan) (p1:sift_Node):Option ((List sift_val)×sift_scan) :=
  (B5 p1.Args 0).bind fun a1 =>
  (s76_ p0 a1).bind fun a0 =>
  (G9 F s76_ s84_ p0.n (some (sift_scan.mk p0.s p0.n a0.2.tests a0.2.values)) p1 a0.1).bind fun a2 =>
  some (a2,(sift_scan.mk p0.s p0.n a0.2.tests a0.2.values))
def Fj (a0:(List sift_val)):Option (List sift_val) :=
  some a0
def Fi (F:Nat) (c1_0_:(List sift_val)) (c1_1_:(List sift_val)) (c1_2_:sift_Node) (k2:(Int→Int→(List sift_val)→Option (List sift_val))) (a2:Int) (a0:Int) (a1:(List sift_val)):Option (List sift_val) :=
  bif (decide (a0<a2)) then ((Ly F a0 c1_0_ c1_1_ c1_2_).bind fun a5 =>
  (B5 a1 a0).bind fun a6 =>
  (Mx a1 a0 a5).bind fun a3 =>
  (ck (a0+1)).bind fun a4 =>
  k2 a2 a4 a3) else (Fj a1)
def Do (F:Nat) (c1_0_:(List sift_val)) (c1_1_:(List sift_val)) (c1_2_:sift_Node):Nat→Int→Int→(List sift_val)→Option (List sift_val)
  | 0,_,_,_=>none
  | n+1,a1,a2,a0=>Fi F c1_0_ c1_1_ c1_2_ (Do F c1_0_ c1_1_ c1_2_ n) a1 a2 a0
def Ga (F:Nat) (s76_:Ag) (s84_:Af) (p0:Int) (c1_0_:(List sift_val)) (c1_1_:(List sift_val)) (c1_2_:sift_Node):Option (List sift_val) :=
  (mkI 24 p0 (sift_val.mk (api_Span.mk 0 0) false)).bind fun a0 =>
  Do F c1_0_ c1_1_ c1_2_ F ((a0.length:Nat):Int) 0 a0
def La (F:Nat) (s76_:Ag) (s84_:Af) (p0:sift_scan) (p1:sift_Node):Option ((List sift_val)×sift_scan) :=
  (B5 p1.Args 0).bind fun a2 =>
  (B5 p1.Args 1).bind fun a3 =>
  (s84_ p0 a2).bind fun a0 =>
  (s84_ (sift_scan.mk p0.s p0.n a0.2.tests a0.2.values) a3).bind fun a1 =>
  (Ga F s76_ s84_ p0.n a0.1 a1.1 p1).bind fun a4 =>
  some (a4,(sift_scan.mk p0.s p0.n a1.2.tests a1.2.values))
def Lb (F:Nat) (s76_:Ag) (s84_:Af) (p0:sift_scan) (p1:sift_Node):Option ((List Int)×sift_scan) :=
  (Gk F p1).bind fun a0 =>
  bif ((lkM p0.tests a0).isSome) then (some (((lkM p0.tests a0).getD []),p0)) else (bif (p1.Op==0) then ((Ms F (some p0) p1).bind fun aC =>
  some (aC,(sift_scan.mk p0.s p0.n (upM p0.tests a0 aC) p0.values))) else (bif (p1.Op==1) then ((Jl F (some p0) p1).bind fun aD =>
  some (aD,(sift_scan.mk p0.s p0.n (upM p0.tests a0 aD) p0.values))) else (bif (p1.Op==2) then ((Jl F (some p0) p1).bind fun aE =>
  some (aE,(sift_scan.mk p0.s p0.n (upM p0.tests a0 aE) p0.values))) else (bif (p1.Op==3) then ((Nt F s76_ s84_ p0 p1).bind fun a8 =>
  some (a8.1,(sift_scan.mk p0.s p0.n (upM a8.2.tests a0 a8.1) a8.2.values))) else (bif (p1.Op==4) then ((Kf F s76_ s84_ p0 p1).bind fun a9 =>
  some (a9.1,(sift_scan.mk p0.s p0.n (upM a9.2.tests a0 a9.1) a9.2.values))) else (bif (p1.Op==5) then ((Kf F s76_ s84_ p0 p1).bind fun aA =>
  some (aA.1,(sift_scan.mk p0.s p0.n (upM aA.2.tests a0 aA.1) aA.2.values))) else (bif (p1.Op==6) then ((Kg F s76_ s84_ p0 p1).bind fun aB =>
  some (aB.1,(sift_scan.mk p0.s p0.n (upM aB.2.tests a0 aB.1) aB.2.values))) else (bif (p1.Op==7) then ((Kg F s76_ s84_ p0 p1).bind fun a1 =>
  some (a1.1,(sift_scan.mk p0.s p0.n (upM a1.2.tests a0 a1.1) a1.2.values))) else (bif (p1.Op==8) then ((D4 F s76_ s84_ p0 p1).bind fun a2 =>
  some (a2.1,(sift_scan.mk p0.s p0.n (upM a2.2.tests a0 a2.1) a2.2.values))) else (bif (p1.Op==9) then ((D4 F s76_ s84_ p0 p1).bind fun a3 =>
  some (a3.1,(sift_scan.mk p0.s p0.n (upM a3.2.tests a0 a3.1) a3.2.values))) else (bif (p1.Op==10) then ((D4 F s76_ s84_ p0 p1).bind fun a4 =>
  some (a4.1,(sift_scan.mk p0.s p0.n (upM a4.2.tests a0 a4.1) a4.2.values))) else (bif (p1.Op==11) then ((D4 F s76_ s84_ p0 p1).bind fun a5 =>
  some (a5.1,(sift_scan.mk p0.s p0.n (upM a5.2.tests a0 a5.1) a5.2.values))) else (bif (p1.Op==12) then ((D4 F s76_ s84_ p0 p1).bind fun a6 =>
  some (a6.1,(sift_scan.mk p0.s p0.n (upM a6.2.tests a0 a6.1) a6.2.values))) else (bif (p1.Op==13) then ((D4 F s76_ s84_ p0 p1).bind fun a7 =>
  some (a7.1,(sift_scan.mk p0.s p0.n (upM a7.2.tests a0 a7.1) a7.2.values))) else (none)))))))))))))))
def Ks (F:Nat) (s76_:Ag) (s84_:Af) (p0:sift_scan) (p1:sift_Node):Option ((List sift_val)×sift_scan) :=
  (Gk F p1).bind fun a0 =>
  bif ((lkM p0.values a0).isSome) then (some (((lkM p0.values a0).getD []),p0)) else (bif (p1.Op==25) then ((Lw F s76_ s84_ p0 p1).bind fun a1 =>
  some (a1.1,(sift_scan.mk p0.s p0.n a1.2.tests (upM a1.2.values a0 a1.1)))) else (bif (p1.Op==26) then (bif (p1.Op==26) then ((La F s76_ s84_ p0 p1).bind fun a2 =>
  some (a2.1,(sift_scan.mk p0.s p0.n a2.2.tests (upM a2.2.values a0 a2.1)))) else ((Jk F (some p0) p1).bind fun a4 =>
  some (a4,(sift_scan.mk p0.s p0.n p0.tests (upM p0.values a0 a4))))) else (bif (p1.Op==27) then ((La F s76_ s84_ p0 p1).bind fun a3 =>
  some (a3.1,(sift_scan.mk p0.s p0.n a3.2.tests (upM a3.2.values a0 a3.1)))) else ((Jk F (some p0) p1).bind fun a5 =>
  some (a5,(sift_scan.mk p0.s p0.n p0.tests (upM p0.values a0 a5)))))))
def Bl:Nat→Ag×Af
  | 0=>(fun _ _=>none,fun _ _=>none)
  | F+1=>(Lb F (Bl F).1 (Bl F).2,Ks F (Bl F).1 (Bl F).2)
def Mt (F:Nat):Ag:=(Bl F).1
def Pm (a0:(List (List sift_Verdict))):Option ((List (List sift_Verdict))×Int) :=
  some (a0,0)
def Pn (a1:Int) (k3:((List (List sift_Verdict))→Int→Option ((List (List sift_Verdict))×Int))) (a0:(List (List sift_Verdict))):Option ((List (List sift_Verdict))×Int) :=
  (ck (a1+1)).bind fun a2 =>
  k3 a0 a2
def Po (a1:Int) (k5:((List (List sift_Verdict))→Int→Option ((List (List sift_Verdict))×Int))) (a0:(List (List sift_Verdict))):Option ((List (List sift_Verdict))×Int) :=
  (ck (a1+1)).bind fun a2 =>
  k5 a0 a2
def M9 (a1:Int) (a0:(List (List sift_Verdict))) (a6:Int) (k5:((List (List sift_Verdict))→Int→Option ((List (List sift_Verdict))×Int))) (a7:Int) (a2:(List Int)):Option ((List (List sift_Verdict))×Int) :=
  (B5 a0 a1).bind fun a5 =>
  (apd 32 a5 ([(sift_Verdict.mk a7 a2)])).bind fun a3 =>
  (B5 a0 a1).bind fun a8 =>
  (Mx a0 a1 a3).bind fun a4 =>
  Po a6 k5 a4
def Ma (a1:Int) (k8:((List Int)→Int→Option ((List (List sift_Verdict))×Int))) (a0:(List Int)):Option ((List (List sift_Verdict))×Int) :=
  (ck (a1+1)).bind fun a2 =>
  k8 a0 a2
def Pk (a4:(List (List Int))) (a2:Int) (a8:(List api_Echo)) (a5:(List (List sift_Verdict))) (a3:Int) (k5:((List (List sift_Verdict))→Int→Option ((List (List sift_Verdict))×Int))) (k8:((List Int)→Int→Option ((List (List sift_Verdict))×Int))) (a1:(List Int)) (a0:Int):Option ((List (List sift_Verdict))×Int) :=
  bif (decide (a0<((a4.length:Nat):Int))) then ((B5 a4 a0).bind fun a9 =>
  (ck (a2*((a8.length:Nat):Int))).bind fun aA =>
  (ck (aA+a3)).bind fun aB =>
  (B5 a9 aB).bind fun a6 =>
  bif (a6==1) then (M9 a2 a5 a3 k5 a0 a1) else (bif (a6==2) then ((apd 8 a1 ([a0])).bind fun a7 =>
  Ma a0 k8 a7) else (Ma a0 k8 a1))) else (M9 a2 a5 a3 k5 (-1) a1)
def Md (a0:(List (List Int))) (a3:Int) (a2:(List api_Echo)) (a1:(List (List sift_Verdict))) (a4:Int) (k5:((List (List sift_Verdict))→Int→Option ((List (List sift_Verdict))×Int))):Nat→(List Int)→Int→Option ((List (List sift_Verdict))×Int)
  | 0,_,_=>none
  | n+1,a5,a6=>Pk a0 a3 a2 a1 a4 k5 (Md a0 a3 a2 a1 a4 k5 n) a5 a6
def Pj (F:Nat) (a4:(List (List Int))) (a2:Int) (k3:((List (List sift_Verdict))→Int→Option ((List (List sift_Verdict))×Int))) (a1:(List api_Echo)) (k5:((List (List sift_Verdict))→Int→Option ((List (List sift_Verdict))×Int))) (a0:(List (List sift_Verdict))) (a3:Int):Option ((List (List sift_Verdict))×Int) :=
  bif (decide (a3<((a1.length:Nat):Int))) then (Md a4 a2 a1 a0 a3 k5 F ([]) 0) else (Pn a2 k3 a0)
def Mc (F:Nat) (a0:(List (List Int))) (a2:Int) (k3:((List (List sift_Verdict))→Int→Option ((List (List sift_Verdict))×Int))) (a1:(List api_Echo)):Nat→(List (List sift_Verdict))→Int→Option ((List (List sift_Verdict))×Int)
  | 0,_,_=>none
  | n+1,a3,a4=>Pj F a0 a2 k3 a1 (Mc F a0 a2 k3 a1 n) a3 a4
def Pi (F:Nat) (p1:api_Sweep) (a2:(List (List Int))) (k3:((List (List sift_Verdict))→Int→Option ((List (List sift_Verdict))×Int))) (a1:(List (List sift_Verdict))) (a0:Int):Option ((List (List sift_Verdict))×Int) :=
  bif (decide (a0<((p1.Rays.length:Nat):Int))) then ((B5 p1.Rays a0).bind fun a3 =>
  Mc F a2 a0 k3 a3 F a1 0) else (Pm a1)
def Mb (F:Nat) (p1:api_Sweep) (a0:(List (List Int))):Nat→(List (List sift_Verdict))→Int→Option ((List (List sift_Verdict))×Int)
  | 0,_,_=>none
  | n+1,a1,a2=>Pi F p1 a0 (Mb F p1 a0 n) a1 a2
def Pl (F:Nat) (p1:api_Sweep) (a2:(List (ByteArray×(List Int)))) (a3:(List (ByteArray×(List sift_val)))) (a0:(List (List Int))):Option ((List (List sift_Verdict))×Int) :=
  (mkI 24 ((p1.Rays.length:Nat):Int) ([]:(List sift_Verdict))).bind fun a1 =>
  Mb F p1 a0 F a1 0
def Nw (F:Nat) (p0:(List sift_Rule)) (p1:api_Sweep) (a5:sift_scan) (a6:((List (ByteArray×(List Int)))→(List (ByteArray×(List sift_val)))→Int→(List (List Int))→Option ((List (List sift_Verdict))×Int))) (a2:(List (ByteArray×(List Int)))) (a3:(List (ByteArray×(List sift_val)))) (a0:Int) (a4:(List (List Int))):Option ((List (List sift_Verdict))×Int) :=
  bif (decide (a0<((p0.length:Nat):Int))) then ((B5 p0 a0).bind fun a8 =>
  (Mt F (sift_scan.mk a5.s a5.n a2 a3) a8.When).bind fun a1 =>
  (apd 24 a4 ([a1.1])).bind fun a7 =>
  (ck (a0+1)).bind fun a9 =>
  a6 a1.2.tests a1.2.values a9 a7) else (Pl F p1 a2 a3 a4)
def Ld (F:Nat) (p0:(List sift_Rule)) (p1:api_Sweep) (a0:sift_scan):Nat→(List (ByteArray×(List Int)))→(List (ByteArray×(List sift_val)))→Int→(List (List Int))→Option ((List (List sift_Verdict))×Int)
  | 0,_,_,_,_=>none
  | n+1,a1,a2,a4,a3=>Nw F p0 p1 a0 (Ld F p0 p1 a0 n) a1 a2 a4 a3
def Sr (F:Nat) (p0:(List sift_Rule)) (p1:api_Sweep):Option ((List (List sift_Verdict))×Int) :=
  (Gx F p0).bind fun a1 =>
  bif (a1 != 0) then (some (([]:(List (List sift_Verdict))),a1)) else ((Jm F p1).bind fun a2 =>
  bif (a2 != 0) then (some (([]:(List (List sift_Verdict))),a2)) else ((Nf F p1).bind fun a0 =>
  Ld F p0 p1 a0 F a0.tests a0.values 0 ([])))
def Ng (p0:ByteArray):Option ByteArray :=
  some p0
def Hc (p0:ByteArray) (p1:ByteArray) (k2:(Int→Option ByteArray)) (a0:Int):Option ByteArray :=
  bif (decide (a0<((p0.size:Nat):Int))) then ((Tb p0 a0).bind fun a2 =>
  bif (decide ((Ba p1 a2)<0)) then ((Ei p0 0 a0).bind fun a1 =>
  some a1) else ((ck (a0+1)).bind fun a3 =>
  k2 a3)) else (Ng p0)
def Li (p0:ByteArray) (p1:ByteArray):Nat→Int→Option ByteArray
  | 0,_=>none
  | n+1,a0=>Hc p0 p1 (Li p0 p1 n) a0
def Eh (F:Nat) (p0:ByteArray) (p1:ByteArray):Option ByteArray :=
  Li p0 p1 F 0
def D3 (F:Nat) (p0:sift_reader) (k1:(Int→Option sift_reader)) (a3:Int):Option sift_reader :=
  (Ei p0.s a3 ((p0.s.size:Nat):Int)).bind fun a4 =>
  (Eh F a4 (⟨#[32,9,10,13]⟩:ByteArray)).bind fun a8 =>
  (ck (a3+((a8.size:Nat):Int))).bind fun a0 =>
  bif (a0==((p0.s.size:Nat):Int)) then (bif (bif (a0==((p0.s.size:Nat):Int)) then true else (0 != 35)) then (some (sift_reader.mk p0.s a0 p0.token p0.from_)) else ((Ei p0.s a0 ((p0.s.size:Nat):Int)).bind fun a1 =>
  bif (decide ((Ba a1 10)≥0)) then ((ck (a0+(Ba a1 10))).bind fun a6 =>
  k1 a6) else (k1 ((p0.s.size:Nat):Int)))) else ((Tb p0.s a0).bind fun a5 =>
  bif (bif (a0==((p0.s.size:Nat):Int)) then true else (a5 != 35)) then (some (sift_reader.mk p0.s a0 p0.token p0.from_)) else ((Ei p0.s a0 ((p0.s.size:Nat):Int)).bind fun a2 =>
  bif (decide ((Ba a2 10)≥0)) then ((ck (a0+(Ba a2 10))).bind fun a7 =>
  k1 a7) else (k1 ((p0.s.size:Nat):Int))))
def Dk (F:Nat) (p0:sift_reader):Nat→Int→Option sift_reader
  | 0,_=>none
  | n+1,a0=>D3 F p0 (Dk F p0 n) a0
def Ex (F:Nat) (p0:sift_reader):Option sift_reader :=
  Dk F p0 F p0.at_
def D6 (F:Nat) (p0:ByteArray) (p1:ByteArray):Option Bool :=
  bif (decide (((p0.size:Nat):Int)≥((p1.size:Nat):Int))) then ((Ei p0 0 ((p1.size:Nat):Int)).bind fun s2 =>
  some (sEq s2 p1)) else (some false)
def B0 (F:Nat) (p0:ByteArray) (p1:ByteArray):Option Bool :=
  (D6 F p0 p1).bind fun y1 =>
  some y1
def Ai (y4:sift_reader) (a0:ByteArray):Option sift_reader :=
  (ck (y4.at_+((a0.size:Nat):Int))).bind fun a1 =>
  some (sift_reader.mk y4.s a1 a0 y4.at_)
def Bj (a0:sift_reader) (a1:ByteArray):Option sift_reader :=
  (ck (a0.at_+((a1.size:Nat):Int))).bind fun a2 =>
  some (sift_reader.mk a0.s a2 a1 a0.at_)
def Ae (F:Nat) (p0:sift_reader):Option sift_reader :=
  bif (!(sEq p0.token (⟨#[]⟩:ByteArray))) then ((Ei p0.token 0 1).bind fun s2 =>
  (Am F (⟨#[48,49,50,51,52,53,54,55,56,57]⟩:ByteArray) s2).bind fun y3 =>
  (Ex F p0).bind fun y4 =>
  (Ei y4.s y4.at_ ((y4.s.size:Nat):Int)).bind fun s8 =>
  bif (sEq s8 (⟨#[]⟩:ByteArray)) then (Ai y4 (⟨#[]⟩:ByteArray)) else (bif y3 then (bif (y4.at_==p0.at_) then ((Ei s8 0 1).bind fun aI =>
  (Am F (⟨#[97,98,99,100,101,102,103,104,105,106,107,108,109,110,111,112,113,114,115,116,117,118,119,120,121,122,48,49,50,51,52,53,54,55,56,57]⟩:ByteArray) aI).bind fun b7 =>
  bif b7 then (Ai y4 (⟨#[]⟩:ByteArray)) else ((Ei s8 0 1).bind fun aJ =>
  (Am F (⟨#[97,98,99,100,101,102,103,104,105,106,107,108,109,110,111,112,113,114,115,116,117,118,119,120,121,122]⟩:ByteArray) aJ).bind fun b8 =>
  bif b8 then ((Eh F s8 (⟨#[97,98,99,100,101,102,103,104,105,106,107,108,109,110,111,112,113,114,115,116,117,118,119,120,121,122,48,49,50,51,52,53,54,55,56,57,95]⟩:ByteArray)).bind fun b9 =>
  Ai y4 b9) else ((Tb s8 (0:Int)).bind fun aW =>
  bif (aW==48) then (Ai y4 (⟨#[48]⟩:ByteArray)) else ((Ei s8 0 1).bind fun aK =>
  (Am F (⟨#[48,49,50,51,52,53,54,55,56,57]⟩:ByteArray) aK).bind fun bA =>
  bif bA then ((Eh F s8 (⟨#[48,49,50,51,52,53,54,55,56,57]⟩:ByteArray)).bind fun bB =>
  Ai y4 bB) else ((B0 F s8 (⟨#[60,61]⟩:ByteArray)).bind fun a3 =>
  (gd ((a3==false&&true)) (B0 F s8 (⟨#[62,61]⟩:ByteArray)) default).bind fun a8 =>
  (gd (((bif a3 then true else a8)==false&&true)) (B0 F s8 (⟨#[33,61]⟩:ByteArray)) default).bind fun bC =>
  bif (bif (bif a3 then true else a8) then true else bC) then ((Ei s8 0 2).bind fun aL =>
  Ai y4 aL) else ((Ei s8 0 1).bind fun aM =>
  (Am F (⟨#[60,62,61,43,45,40,41,58,59]⟩:ByteArray) aM).bind fun bD =>
  bif bD then ((Ei s8 0 1).bind fun aN =>
  Ai y4 aN) else (Ai y4 (⟨#[]⟩:ByteArray)))))))) else ((Ei s8 0 1).bind fun aO =>
  (Am F (⟨#[97,98,99,100,101,102,103,104,105,106,107,108,109,110,111,112,113,114,115,116,117,118,119,120,121,122]⟩:ByteArray) aO).bind fun bE =>
  bif bE then ((Eh F s8 (⟨#[97,98,99,100,101,102,103,104,105,106,107,108,109,110,111,112,113,114,115,116,117,118,119,120,121,122,48,49,50,51,52,53,54,55,56,57,95]⟩:ByteArray)).bind fun bF =>
  Ai y4 bF) else ((Tb s8 (0:Int)).bind fun aX =>
  bif (aX==48) then (Ai y4 (⟨#[48]⟩:ByteArray)) else ((Ei s8 0 1).bind fun aP =>
  (Am F (⟨#[48,49,50,51,52,53,54,55,56,57]⟩:ByteArray) aP).bind fun bG =>
  bif bG then ((Eh F s8 (⟨#[48,49,50,51,52,53,54,55,56,57]⟩:ByteArray)).bind fun bH =>
  Ai y4 bH) else ((B0 F s8 (⟨#[60,61]⟩:ByteArray)).bind fun a4 =>
  (gd ((a4==false&&true)) (B0 F s8 (⟨#[62,61]⟩:ByteArray)) default).bind fun a9 =>
  (gd (((bif a4 then true else a9)==false&&true)) (B0 F s8 (⟨#[33,61]⟩:ByteArray)) default).bind fun bI =>
  bif (bif (bif a4 then true else a9) then true else bI) then ((Ei s8 0 2).bind fun aQ =>
  Ai y4 aQ) else ((Ei s8 0 1).bind fun aR =>
  (Am F (⟨#[60,62,61,43,45,40,41,58,59]⟩:ByteArray) aR).bind fun bJ =>
  bif bJ then ((Ei s8 0 1).bind fun aS =>
  Ai y4 aS) else (Ai y4 (⟨#[]⟩:ByteArray)))))))) else ((Ei s8 0 1).bind fun aT =>
  (Am F (⟨#[97,98,99,100,101,102,103,104,105,106,107,108,109,110,111,112,113,114,115,116,117,118,119,120,121,122]⟩:ByteArray) aT).bind fun bK =>
  bif bK then ((Eh F s8 (⟨#[97,98,99,100,101,102,103,104,105,106,107,108,109,110,111,112,113,114,115,116,117,118,119,120,121,122,48,49,50,51,52,53,54,55,56,57,95]⟩:ByteArray)).bind fun bL =>
  Ai y4 bL) else ((Tb s8 (0:Int)).bind fun aY =>
  bif (aY==48) then (Ai y4 (⟨#[48]⟩:ByteArray)) else ((Ei s8 0 1).bind fun aU =>
  (Am F (⟨#[48,49,50,51,52,53,54,55,56,57]⟩:ByteArray) aU).bind fun bM =>
  bif bM then ((Eh F s8 (⟨#[48,49,50,51,52,53,54,55,56,57]⟩:ByteArray)).bind fun bN =>
  Ai y4 bN) else ((B0 F s8 (⟨#[60,61]⟩:ByteArray)).bind fun a5 =>
  (gd ((a5==false&&true)) (B0 F s8 (⟨#[62,61]⟩:ByteArray)) default).bind fun a6 =>
  (gd (((bif a5 then true else a6)==false&&true)) (B0 F s8 (⟨#[33,61]⟩:ByteArray)) default).bind fun aZ =>
  bif (bif (bif a5 then true else a6) then true else aZ) then ((Ei s8 0 2).bind fun aA =>
  Ai y4 aA) else ((Ei s8 0 1).bind fun aB =>
  (Am F (⟨#[60,62,61,43,45,40,41,58,59]⟩:ByteArray) aB).bind fun b0 =>
  bif b0 then ((Ei s8 0 1).bind fun aC =>
  Ai y4 aC) else (Ai y4 (⟨#[]⟩:ByteArray))))))))) else ((Ex F p0).bind fun a1 =>
  (Ei a1.s a1.at_ ((a1.s.size:Nat):Int)).bind fun a0 =>
  bif (sEq a0 (⟨#[]⟩:ByteArray)) then (Bj a1 (⟨#[]⟩:ByteArray)) else ((Ei a0 0 1).bind fun aD =>
  (Am F (⟨#[97,98,99,100,101,102,103,104,105,106,107,108,109,110,111,112,113,114,115,116,117,118,119,120,121,122]⟩:ByteArray) aD).bind fun b1 =>
  bif b1 then ((Eh F a0 (⟨#[97,98,99,100,101,102,103,104,105,106,107,108,109,110,111,112,113,114,115,116,117,118,119,120,121,122,48,49,50,51,52,53,54,55,56,57,95]⟩:ByteArray)).bind fun b2 =>
  Bj a1 b2) else ((Tb a0 (0:Int)).bind fun aV =>
  bif (aV==48) then (Bj a1 (⟨#[48]⟩:ByteArray)) else ((Ei a0 0 1).bind fun aE =>
  (Am F (⟨#[48,49,50,51,52,53,54,55,56,57]⟩:ByteArray) aE).bind fun b3 =>
  bif b3 then ((Eh F a0 (⟨#[48,49,50,51,52,53,54,55,56,57]⟩:ByteArray)).bind fun b4 =>
  Bj a1 b4) else ((B0 F a0 (⟨#[60,61]⟩:ByteArray)).bind fun a2 =>
  (gd ((a2==false&&true)) (B0 F a0 (⟨#[62,61]⟩:ByteArray)) default).bind fun a7 =>
  (gd (((bif a2 then true else a7)==false&&true)) (B0 F a0 (⟨#[33,61]⟩:ByteArray)) default).bind fun b5 =>
  bif (bif (bif a2 then true else a7) then true else b5) then ((Ei a0 0 2).bind fun aF =>
  Bj a1 aF) else ((Ei a0 0 1).bind fun aG =>
  (Am F (⟨#[60,62,61,43,45,40,41,58,59]⟩:ByteArray) aG).bind fun b6 =>
  bif b6 then ((Ei a0 0 1).bind fun aH =>
  Bj a1 aH) else (Bj a1 (⟨#[]⟩:ByteArray))))))))
def Cx (F:Nat) (p0:sift_reader):Option (Except (Value×sift_reader) sift_reader) :=
  some (.error (.iface 146 (.int .i64 p0.from_),p0))
def Ci (F:Nat) (p0:sift_reader) (p1:ByteArray):Option (Bool×sift_reader) :=
  bif (!(sEq p0.token p1)) then (some (false,p0)) else ((Ae F p0).bind fun y1 =>
  some (true,y1))
def Ch (F:Nat) (p0:sift_reader) (p1:ByteArray):Option (Except (Value×sift_reader) sift_reader) :=
  (Ci F p0 p1).bind fun y1 =>
  bif (!y1.1) then ((Cx F (sift_reader.mk y1.2.s y1.2.at_ y1.2.token y1.2.from_)).bind fun y5 =>
  exc y5 (fun e7=>some (.error (e7.1,(sift_reader.mk e7.2.s e7.2.at_ e7.2.token e7.2.from_)))) fun y6 =>
  some (.ok y6)) else (some (.ok (sift_reader.mk y1.2.s y1.2.at_ y1.2.token y1.2.from_)))
def F3 (F:Nat) (a0:ByteArray) (a2:Int) (a1:ByteArray) (a3:Int) (a4:Int):Option (Except (Value×sift_reader) (Int×sift_reader)) :=
  (Ae F (sift_reader.mk a0 a2 a1 a3)).bind fun a5 =>
  some (.ok (a4,a5))
def Dy (a2:Int) (k3:(ByteArray→Int→ByteArray→Int→Int→Int→Option (Except (Value×sift_reader) (Int×sift_reader)))) (a0:ByteArray) (a3:Int) (a1:ByteArray) (a4:Int) (a5:Int):Option (Except (Value×sift_reader) (Int×sift_reader)) :=
  (ck (a2+1)).bind fun a6 =>
  k3 a0 a3 a1 a4 a6 a5
def Dx (F:Nat) (p1:Int) (a8:(List Int)) (k3:(ByteArray→Int→ByteArray→Int→Int→Int→Option (Except (Value×sift_reader) (Int×sift_reader)))) (a3:ByteArray) (a5:Int) (a4:ByteArray) (a6:Int) (a1:Int) (a9:Int):Option (Except (Value×sift_reader) (Int×sift_reader)) :=
  bif (decide (a1<((a8.length:Nat):Int))) then ((B5 a8 a1).bind fun aA =>
  (ck (10*a9)).bind fun aB =>
  (ck (IntKind.u8.wrap (aA-48))).bind fun aC =>
  (ck (aB+aC)).bind fun a7 =>
  bif (decide (a7>p1)) then ((Cx F (sift_reader.mk a3 a5 a4 a6)).bind fun aD =>
  exc aD (fun a0=>some (.error (a0.1,(sift_reader.mk a0.2.s a0.2.at_ a0.2.token a0.2.from_)))) fun a2 =>
  Dy a1 k3 a2.s a2.at_ a2.token a2.from_ a7) else (Dy a1 k3 a3 a5 a4 a6 a7)) else (F3 F a3 a5 a4 a6 a9)
def Dz (F:Nat) (p1:Int) (a0:(List Int)):Nat→ByteArray→Int→ByteArray→Int→Int→Int→Option (Except (Value×sift_reader) (Int×sift_reader))
  | 0,_,_,_,_,_,_=>none
  | n+1,a1,a3,a2,a4,a5,a6=>Dx F p1 a0 (Dz F p1 a0 n) a1 a3 a2 a4 a5 a6
def D8 (F:Nat) (p1:Int) (a2:ByteArray) (a3:Int) (a0:ByteArray) (a4:Int):Option (Except (Value×sift_reader) (Int×sift_reader)) :=
  (s2b a0).bind fun a1 =>
  Dz F p1 a1 F a2 a3 a0 a4 0 0
def Da (F:Nat) (p0:sift_reader) (p1:Int):Option (Except (Value×sift_reader) (Int×sift_reader)) :=
  bif (sEq p0.token (⟨#[]⟩:ByteArray)) then ((Cx F p0).bind fun a5 =>
  exc a5 (fun a0=>some (.error (a0.1,(sift_reader.mk a0.2.s a0.2.at_ a0.2.token a0.2.from_)))) fun a2 =>
  D8 F p1 a2.s a2.at_ a2.token a2.from_) else ((Ei p0.token 0 1).bind fun a4 =>
  (Am F (⟨#[48,49,50,51,52,53,54,55,56,57]⟩:ByteArray) a4).bind fun a6 =>
  bif (!a6) then ((Cx F p0).bind fun a7 =>
  exc a7 (fun a1=>some (.error (a1.1,(sift_reader.mk a1.2.s a1.2.at_ a1.2.token a1.2.from_)))) fun a3 =>
  D8 F p1 a3.s a3.at_ a3.token a3.from_) else (D8 F p1 p0.s p0.at_ p0.token p0.from_))
abbrev Aa:=sift_reader→Option (Except (Value×sift_reader) (sift_Node×sift_reader))
def Ca (F:Nat) (s149_:Aa) (a5:Int) (a6:Int) (a7:Int) (a8:Int) (a2:(List sift_Node)) (a3:ByteArray) (a9:Int) (a4:ByteArray) (aA:Int) (k1:(Int→Int→Int→Int→(List sift_Node)→ByteArray→Int→ByteArray→Int→Option (Except (Value×sift_reader) (sift_Node×sift_reader)))) (aB:Int):Option (Except (Value×sift_reader) (sift_Node×sift_reader)) :=
  bif (aB==0) then (some (.ok ((sift_Node.mk a5 a6 a7 a8 a2),(sift_reader.mk a3 a9 a4 aA)))) else ((Ae F (sift_reader.mk a3 a9 a4 aA)).bind fun aC =>
  (s149_ aC).bind fun aD =>
  exc aD (fun a1=>some (.error (a1.1,(sift_reader.mk a1.2.s a1.2.at_ a1.2.token a1.2.from_)))) fun a0 =>
  k1 aB 0 0 0 ([(sift_Node.mk a5 a6 a7 a8 a2),(sift_Node.mk a0.1.Op a0.1.Value_ a0.1.Rays a0.1.Gates a0.1.Args)]) a0.2.s a0.2.at_ a0.2.token a0.2.from_)
def D2 (a0:Int) (k3:(Int→Int→Option (Except (Value×sift_reader) (sift_Node×sift_reader)))) (a1:Int):Option (Except (Value×sift_reader) (sift_Node×sift_reader)) :=
  (ck (a0+1)).bind fun a2 =>
  k3 a2 a1
def C0 (F:Nat) (s149_:Aa) (p2:(List Int)) (a7:Int) (a8:Int) (a9:Int) (aA:Int) (a4:(List sift_Node)) (a5:ByteArray) (aB:Int) (a1:ByteArray) (aC:Int) (k1:(Int→Int→Int→Int→(List sift_Node)→ByteArray→Int→ByteArray→Int→Option (Except (Value×sift_reader) (sift_Node×sift_reader)))) (k3:(Int→Int→Option (Except (Value×sift_reader) (sift_Node×sift_reader)))) (a0:Int) (a3:Int):Option (Except (Value×sift_reader) (sift_Node×sift_reader)) :=
  bif (decide (a0<((p2.length:Nat):Int))) then ((B5 p2 a0).bind fun a2 =>
  (X1 Bm a2).bind fun a6 =>
  bif (sEq a1 a6) then (D2 a0 k3 a2) else (D2 a0 k3 a3)) else (Ca F s149_ a7 a8 a9 aA a4 a5 aB a1 aC k1 a3)
def Aq (F:Nat) (s149_:Aa) (p2:(List Int)) (a3:Int) (a4:Int) (a5:Int) (a6:Int) (a0:(List sift_Node)) (a1:ByteArray) (a7:Int) (a2:ByteArray) (a8:Int) (k1:(Int→Int→Int→Int→(List sift_Node)→ByteArray→Int→ByteArray→Int→Option (Except (Value×sift_reader) (sift_Node×sift_reader)))):Nat→Int→Int→Option (Except (Value×sift_reader) (sift_Node×sift_reader))
  | 0,_,_=>none
  | n+1,a9,aA=>C0 F s149_ p2 a3 a4 a5 a6 a0 a1 a7 a2 a8 k1 (Aq F s149_ p2 a3 a4 a5 a6 a0 a1 a7 a2 a8 k1 n) a9 aA
def D1 (F:Nat) (s149_:Aa) (p2:(List Int)) (k1:(Int→Int→Int→Int→(List sift_Node)→ByteArray→Int→ByteArray→Int→Option (Except (Value×sift_reader) (sift_Node×sift_reader)))) (a3:Int) (a4:Int) (a5:Int) (a6:Int) (a0:(List sift_Node)) (a1:ByteArray) (a7:Int) (a2:ByteArray) (a8:Int):Option (Except (Value×sift_reader) (sift_Node×sift_reader)) :=
  Aq F s149_ p2 a3 a4 a5 a6 a0 a1 a7 a2 a8 k1 F 0 0
def B3 (F:Nat) (s149_:Aa) (p2:(List Int)):Nat→Int→Int→Int→Int→(List sift_Node)→ByteArray→Int→ByteArray→Int→Option (Except (Value×sift_reader) (sift_Node×sift_reader))
  | 0,_,_,_,_,_,_,_,_,_=>none
  | n+1,a3,a4,a5,a6,a0,a1,a7,a2,a8=>D1 F s149_ p2 (B3 F s149_ p2 n) a3 a4 a5 a6 a0 a1 a7 a2 a8
def Av (F:Nat) (s149_:Aa) (p0:sift_reader) (p2:(List Int)):Option (Except (Value×sift_reader) (sift_Node×sift_reader)) :=
  (s149_ p0).bind fun y5 =>
  exc y5 (fun e7=>some (.error (e7.1,(sift_reader.mk e7.2.s e7.2.at_ e7.2.token e7.2.from_)))) fun y6 =>
  B3 F s149_ p2 F y6.1.Op y6.1.Value_ y6.1.Rays y6.1.Gates y6.1.Args y6.2.s y6.2.at_ y6.2.token y6.2.from_
def Ao (F:Nat) (s149_:Aa) (c0_:sift_reader):Option (Except (Value×sift_reader) (sift_Node×sift_reader)) :=
  (Av F s149_ c0_ ([4])).bind fun y7 =>
  exc y7 (fun e9=>some (.error (e9.1,(sift_reader.mk e9.2.s e9.2.at_ e9.2.token e9.2.from_)))) fun y8 =>
  some (.ok ((sift_Node.mk y8.1.Op y8.1.Value_ y8.1.Rays y8.1.Gates y8.1.Args),(sift_reader.mk y8.2.s y8.2.at_ y8.2.token y8.2.from_)))
def Fw (F:Nat) (s149_:Aa) (a5:Int) (a6:Int) (a7:Int) (a8:Int) (a2:(List sift_Node)) (a3:ByteArray) (a9:Int) (a4:ByteArray) (aA:Int) (k1:(Int→Int→Int→Int→(List sift_Node)→ByteArray→Int→ByteArray→Int→Option (Except (Value×sift_reader) (sift_Node×sift_reader)))) (aB:Int):Option (Except (Value×sift_reader) (sift_Node×sift_reader)) :=
  bif (aB==0) then (some (.ok ((sift_Node.mk a5 a6 a7 a8 a2),(sift_reader.mk a3 a9 a4 aA)))) else ((Ae F (sift_reader.mk a3 a9 a4 aA)).bind fun aC =>
  (Ao F s149_ aC).bind fun aD =>
  exc aD (fun a1=>some (.error (a1.1,(sift_reader.mk a1.2.s a1.2.at_ a1.2.token a1.2.from_)))) fun a0 =>
  k1 aB 0 0 0 ([(sift_Node.mk a5 a6 a7 a8 a2),(sift_Node.mk a0.1.Op a0.1.Value_ a0.1.Rays a0.1.Gates a0.1.Args)]) a0.2.s a0.2.at_ a0.2.token a0.2.from_)
def Dt (a0:Int) (k3:(Int→Int→Option (Except (Value×sift_reader) (sift_Node×sift_reader)))) (a1:Int):Option (Except (Value×sift_reader) (sift_Node×sift_reader)) :=
  (ck (a0+1)).bind fun a2 =>
  k3 a2 a1
def Dr (F:Nat) (s149_:Aa) (p2:(List Int)) (a7:Int) (a8:Int) (a9:Int) (aA:Int) (a4:(List sift_Node)) (a5:ByteArray) (aB:Int) (a1:ByteArray) (aC:Int) (k1:(Int→Int→Int→Int→(List sift_Node)→ByteArray→Int→ByteArray→Int→Option (Except (Value×sift_reader) (sift_Node×sift_reader)))) (k3:(Int→Int→Option (Except (Value×sift_reader) (sift_Node×sift_reader)))) (a0:Int) (a3:Int):Option (Except (Value×sift_reader) (sift_Node×sift_reader)) :=
  bif (decide (a0<((p2.length:Nat):Int))) then ((B5 p2 a0).bind fun a2 =>
  (X1 Bm a2).bind fun a6 =>
  bif (sEq a1 a6) then (Dt a0 k3 a2) else (Dt a0 k3 a3)) else (Fw F s149_ a7 a8 a9 aA a4 a5 aB a1 aC k1 a3)
def Bz (F:Nat) (s149_:Aa) (p2:(List Int)) (a3:Int) (a4:Int) (a5:Int) (a6:Int) (a0:(List sift_Node)) (a1:ByteArray) (a7:Int) (a2:ByteArray) (a8:Int) (k1:(Int→Int→Int→Int→(List sift_Node)→ByteArray→Int→ByteArray→Int→Option (Except (Value×sift_reader) (sift_Node×sift_reader)))):Nat→Int→Int→Option (Except (Value×sift_reader) (sift_Node×sift_reader))
  | 0,_,_=>none
  | n+1,a9,aA=>Dr F s149_ p2 a3 a4 a5 a6 a0 a1 a7 a2 a8 k1 (Bz F s149_ p2 a3 a4 a5 a6 a0 a1 a7 a2 a8 k1 n) a9 aA
def Dq (F:Nat) (s149_:Aa) (p2:(List Int)) (k1:(Int→Int→Int→Int→(List sift_Node)→ByteArray→Int→ByteArray→Int→Option (Except (Value×sift_reader) (sift_Node×sift_reader)))) (a3:Int) (a4:Int) (a5:Int) (a6:Int) (a0:(List sift_Node)) (a1:ByteArray) (a7:Int) (a2:ByteArray) (a8:Int):Option (Except (Value×sift_reader) (sift_Node×sift_reader)) :=
  Bz F s149_ p2 a3 a4 a5 a6 a0 a1 a7 a2 a8 k1 F 0 0
def C9 (F:Nat) (s149_:Aa) (p2:(List Int)):Nat→Int→Int→Int→Int→(List sift_Node)→ByteArray→Int→ByteArray→Int→Option (Except (Value×sift_reader) (sift_Node×sift_reader))
  | 0,_,_,_,_,_,_,_,_,_=>none
  | n+1,a3,a4,a5,a6,a0,a1,a7,a2,a8=>Dq F s149_ p2 (C9 F s149_ p2 n) a3 a4 a5 a6 a0 a1 a7 a2 a8
def Dj (F:Nat) (s149_:Aa) (p0:sift_reader) (p2:(List Int)):Option (Except (Value×sift_reader) (sift_Node×sift_reader)) :=
  (Ao F s149_ p0).bind fun y5 =>
  exc y5 (fun e7=>some (.error (e7.1,(sift_reader.mk e7.2.s e7.2.at_ e7.2.token e7.2.from_)))) fun y6 =>
  C9 F s149_ p2 F y6.1.Op y6.1.Value_ y6.1.Rays y6.1.Gates y6.1.Args y6.2.s y6.2.at_ y6.2.token y6.2.from_
def Cg (F:Nat) (s149_:Aa) (p0:sift_reader):Option (Except (Value×sift_reader) (sift_Node×sift_reader)) :=
  (Dj F s149_ p0 ([5])).bind fun a2 =>
  exc a2 (fun a1=>some (.error (a1.1,(sift_reader.mk a1.2.s a1.2.at_ a1.2.token a1.2.from_)))) fun a0 =>
  some (.ok ((sift_Node.mk a0.1.Op a0.1.Value_ a0.1.Rays a0.1.Gates a0.1.Args),(sift_reader.mk a0.2.s a0.2.at_ a0.2.token a0.2.from_)))
def E8 (F:Nat) (s149_:Aa) (p0:sift_reader) (p1:Int):Option (Except (Value×sift_reader) (sift_Node×sift_reader)) :=
  (Da F p0 3).bind fun y2 =>
  exc y2 (fun e4=>some (.error (e4.1,(sift_reader.mk e4.2.s e4.2.at_ e4.2.token e4.2.from_)))) fun y3 =>
  (Da F (sift_reader.mk y3.2.s y3.2.at_ y3.2.token y3.2.from_) 3).bind fun a4 =>
  exc a4 (fun a1=>some (.error (a1.1,(sift_reader.mk a1.2.s a1.2.at_ a1.2.token a1.2.from_)))) fun a3 =>
  (s149_ (sift_reader.mk a3.2.s a3.2.at_ a3.2.token a3.2.from_)).bind fun a5 =>
  exc a5 (fun a2=>some (.error (a2.1,(sift_reader.mk a2.2.s a2.2.at_ a2.2.token a2.2.from_)))) fun a0 =>
  some (.ok ((sift_Node.mk p1 0 y3.1 a3.1 ([(sift_Node.mk a0.1.Op a0.1.Value_ a0.1.Rays a0.1.Gates a0.1.Args)])),(sift_reader.mk a0.2.s a0.2.at_ a0.2.token a0.2.from_)))
def Ap (F:Nat) (s149_:Aa) (p0:sift_reader):Option (Except (Value×sift_reader) (sift_Node×sift_reader)) :=
  (Eg F p0.token 15 25).bind fun y2 =>
  bif (y2==0) then ((Da F p0 1000000000).bind fun y3 =>
  exc y3 (fun e5=>some (.error (e5.1,(sift_reader.mk e5.2.s e5.2.at_ e5.2.token e5.2.from_)))) fun y4 =>
  some (.ok ((sift_Node.mk 14 y4.1 0 0 ([]:(List sift_Node))),(sift_reader.mk y4.2.s y4.2.at_ y4.2.token y4.2.from_)))) else (bif (y2==25) then ((Ae F p0).bind fun a2 =>
  (E8 F s149_ a2 25).bind fun a3 =>
  exc a3 (fun a1=>some (.error (a1.1,(sift_reader.mk a1.2.s a1.2.at_ a1.2.token a1.2.from_)))) fun a0 =>
  some (.ok ((sift_Node.mk a0.1.Op a0.1.Value_ a0.1.Rays a0.1.Gates a0.1.Args),(sift_reader.mk a0.2.s a0.2.at_ a0.2.token a0.2.from_)))) else ((Ae F p0).bind fun a4 =>
  some (.ok ((sift_Node.mk y2 0 0 0 ([]:(List sift_Node))),a4))))
def Fx (F:Nat) (s149_:Aa) (a5:Int) (a6:Int) (a7:Int) (a8:Int) (a2:(List sift_Node)) (a3:ByteArray) (a9:Int) (a4:ByteArray) (aA:Int) (k1:(Int→Int→Int→Int→(List sift_Node)→ByteArray→Int→ByteArray→Int→Option (Except (Value×sift_reader) (sift_Node×sift_reader)))) (aB:Int):Option (Except (Value×sift_reader) (sift_Node×sift_reader)) :=
  bif (aB==0) then (some (.ok ((sift_Node.mk a5 a6 a7 a8 a2),(sift_reader.mk a3 a9 a4 aA)))) else ((Ae F (sift_reader.mk a3 a9 a4 aA)).bind fun aC =>
  (Ap F s149_ aC).bind fun aD =>
  exc aD (fun a1=>some (.error (a1.1,(sift_reader.mk a1.2.s a1.2.at_ a1.2.token a1.2.from_)))) fun a0 =>
  k1 aB 0 0 0 ([(sift_Node.mk a5 a6 a7 a8 a2),(sift_Node.mk a0.1.Op a0.1.Value_ a0.1.Rays a0.1.Gates a0.1.Args)]) a0.2.s a0.2.at_ a0.2.token a0.2.from_)
def Dw (a0:Int) (k3:(Int→Int→Option (Except (Value×sift_reader) (sift_Node×sift_reader)))) (a1:Int):Option (Except (Value×sift_reader) (sift_Node×sift_reader)) :=
  (ck (a0+1)).bind fun a2 =>
  k3 a2 a1
def Dv (F:Nat) (s149_:Aa) (p2:(List Int)) (a7:Int) (a8:Int) (a9:Int) (aA:Int) (a4:(List sift_Node)) (a5:ByteArray) (aB:Int) (a1:ByteArray) (aC:Int) (k1:(Int→Int→Int→Int→(List sift_Node)→ByteArray→Int→ByteArray→Int→Option (Except (Value×sift_reader) (sift_Node×sift_reader)))) (k3:(Int→Int→Option (Except (Value×sift_reader) (sift_Node×sift_reader)))) (a0:Int) (a3:Int):Option (Except (Value×sift_reader) (sift_Node×sift_reader)) :=
  bif (decide (a0<((p2.length:Nat):Int))) then ((B5 p2 a0).bind fun a2 =>
  (X1 Bm a2).bind fun a6 =>
  bif (sEq a1 a6) then (Dw a0 k3 a2) else (Dw a0 k3 a3)) else (Fx F s149_ a7 a8 a9 aA a4 a5 aB a1 aC k1 a3)
def C1 (F:Nat) (s149_:Aa) (p2:(List Int)) (a3:Int) (a4:Int) (a5:Int) (a6:Int) (a0:(List sift_Node)) (a1:ByteArray) (a7:Int) (a2:ByteArray) (a8:Int) (k1:(Int→Int→Int→Int→(List sift_Node)→ByteArray→Int→ByteArray→Int→Option (Except (Value×sift_reader) (sift_Node×sift_reader)))):Nat→Int→Int→Option (Except (Value×sift_reader) (sift_Node×sift_reader))
  | 0,_,_=>none
  | n+1,a9,aA=>Dv F s149_ p2 a3 a4 a5 a6 a0 a1 a7 a2 a8 k1 (C1 F s149_ p2 a3 a4 a5 a6 a0 a1 a7 a2 a8 k1 n) a9 aA
def Du (F:Nat) (s149_:Aa) (p2:(List Int)) (k1:(Int→Int→Int→Int→(List sift_Node)→ByteArray→Int→ByteArray→Int→Option (Except (Value×sift_reader) (sift_Node×sift_reader)))) (a3:Int) (a4:Int) (a5:Int) (a6:Int) (a0:(List sift_Node)) (a1:ByteArray) (a7:Int) (a2:ByteArray) (a8:Int):Option (Except (Value×sift_reader) (sift_Node×sift_reader)) :=
  C1 F s149_ p2 a3 a4 a5 a6 a0 a1 a7 a2 a8 k1 F 0 0
def Cc (F:Nat) (s149_:Aa) (p2:(List Int)):Nat→Int→Int→Int→Int→(List sift_Node)→ByteArray→Int→ByteArray→Int→Option (Except (Value×sift_reader) (sift_Node×sift_reader))
  | 0,_,_,_,_,_,_,_,_,_=>none
  | n+1,a3,a4,a5,a6,a0,a1,a7,a2,a8=>Du F s149_ p2 (Cc F s149_ p2 n) a3 a4 a5 a6 a0 a1 a7 a2 a8
def Cb (F:Nat) (s149_:Aa) (p0:sift_reader) (p2:(List Int)):Option (Except (Value×sift_reader) (sift_Node×sift_reader)) :=
  (Ap F s149_ p0).bind fun y5 =>
  exc y5 (fun e7=>some (.error (e7.1,(sift_reader.mk e7.2.s e7.2.at_ e7.2.token e7.2.from_)))) fun y6 =>
  Cc F s149_ p2 F y6.1.Op y6.1.Value_ y6.1.Rays y6.1.Gates y6.1.Args y6.2.s y6.2.at_ y6.2.token y6.2.from_
def E0 (F:Nat) (s149_:Aa) (a2:(sift_Node×sift_reader)) (a9:Int) (a3:ByteArray) (a5:Int) (a4:ByteArray) (a6:Int):Option (Except (Value×sift_reader) (sift_Node×sift_reader)) :=
  (Ae F (sift_reader.mk a3 a5 a4 a6)).bind fun a7 =>
  (Cb F s149_ a7 ([26,27])).bind fun a8 =>
  exc a8 (fun a1=>some (.error (a1.1,(sift_reader.mk a1.2.s a1.2.at_ a1.2.token a1.2.from_)))) fun a0 =>
  some (.ok ((sift_Node.mk a9 0 0 0 ([(sift_Node.mk a2.1.Op a2.1.Value_ a2.1.Rays a2.1.Gates a2.1.Args),(sift_Node.mk a0.1.Op a0.1.Value_ a0.1.Rays a0.1.Gates a0.1.Args)])),(sift_reader.mk a0.2.s a0.2.at_ a0.2.token a0.2.from_)))
def Cm (F:Nat) (s149_:Aa) (p0:sift_reader) (y2:Int) (aB:Bool):Option (Except (Value×sift_reader) (sift_Node×sift_reader)) :=
  bif aB then ((Ae F p0).bind fun aD =>
  (E8 F s149_ aD y2).bind fun aE =>
  exc aE (fun a5=>some (.error (a5.1,(sift_reader.mk a5.2.s a5.2.at_ a5.2.token a5.2.from_)))) fun a1 =>
  some (.ok ((sift_Node.mk a1.1.Op a1.1.Value_ a1.1.Rays a1.1.Gates a1.1.Args),(sift_reader.mk a1.2.s a1.2.at_ a1.2.token a1.2.from_)))) else ((Ci F p0 (⟨#[40]⟩:ByteArray)).bind fun a2 =>
  bif a2.1 then ((Cg F s149_ (sift_reader.mk a2.2.s a2.2.at_ a2.2.token a2.2.from_)).bind fun aF =>
  exc aF (fun a6=>some (.error (a6.1,(sift_reader.mk a6.2.s a6.2.at_ a6.2.token a6.2.from_)))) fun a3 =>
  (Ch F (sift_reader.mk a3.2.s a3.2.at_ a3.2.token a3.2.from_) (⟨#[41]⟩:ByteArray)).bind fun aG =>
  exc aG (fun a7=>some (.error (a7.1,(sift_reader.mk a7.2.s a7.2.at_ a7.2.token a7.2.from_)))) fun aH =>
  some (.ok ((sift_Node.mk a3.1.Op a3.1.Value_ a3.1.Rays a3.1.Gates a3.1.Args),aH))) else ((Cb F s149_ (sift_reader.mk a2.2.s a2.2.at_ a2.2.token a2.2.from_) ([26,27])).bind fun aI =>
  exc aI (fun a8=>some (.error (a8.1,(sift_reader.mk a8.2.s a8.2.at_ a8.2.token a8.2.from_)))) fun a0 =>
  (Eg F a0.2.token 8 13).bind fun aA =>
  bif (aA==0) then ((Cx F (sift_reader.mk a0.2.s a0.2.at_ a0.2.token a0.2.from_)).bind fun aC =>
  exc aC (fun a4=>some (.error (a4.1,(sift_reader.mk a4.2.s a4.2.at_ a4.2.token a4.2.from_)))) fun a9 =>
  E0 F s149_ a0 aA a9.s a9.at_ a9.token a9.from_) else (E0 F s149_ a0 aA a0.2.s a0.2.at_ a0.2.token a0.2.from_)))
def Bt (F:Nat) (s149_:Aa) (p0:sift_reader) (y2:Int) (c3:Bool):Option (Except (Value×sift_reader) (sift_Node×sift_reader)) :=
  bif c3 then ((Ae F p0).bind fun y4 =>
  some (.ok ((sift_Node.mk y2 0 0 0 ([]:(List sift_Node))),y4))) else (bif (y2==3) then ((Ae F p0).bind fun y8 =>
  (s149_ y8).bind fun a2 =>
  exc a2 (fun a1=>some (.error (a1.1,(sift_reader.mk a1.2.s a1.2.at_ a1.2.token a1.2.from_)))) fun a0 =>
  some (.ok ((sift_Node.mk 3 0 0 0 ([(sift_Node.mk a0.1.Op a0.1.Value_ a0.1.Rays a0.1.Gates a0.1.Args)])),(sift_reader.mk a0.2.s a0.2.at_ a0.2.token a0.2.from_)))) else (bif (y2==6) then (Cm F s149_ p0 y2 (y2==6)) else (Cm F s149_ p0 y2 (y2==7))))
def Be (F:Nat) (s149_:Aa) (p0:sift_reader):Option (Except (Value×sift_reader) (sift_Node×sift_reader)) :=
  (Eg F p0.token 1 7).bind fun y2 =>
  bif (y2==1) then (Bt F s149_ p0 y2 (y2==1)) else (Bt F s149_ p0 y2 (y2==2))
def Au:Nat→Aa
  | 0=>fun _=>none
  | F+1=>Be F (Au F)
def Hm (a1:ByteArray) (a3:Int) (a2:ByteArray) (a4:Int) (a0:(List sift_Rule)):Option (Except (Value×sift_reader) ((List sift_Rule)×sift_reader)) :=
  some (.ok (a0,(sift_reader.mk a1 a3 a2 a4)))
def Dc (F:Nat) (a7:ByteArray) (a5:(List sift_Rule)) (k2:(ByteArray→Int→ByteArray→Int→(List sift_Rule)→Option (Except (Value×sift_reader) ((List sift_Rule)×sift_reader)))) (a8:ByteArray) (aA:Int) (a9:ByteArray) (aB:Int):Option (Except (Value×sift_reader) ((List sift_Rule)×sift_reader)) :=
  (Ae F (sift_reader.mk a8 aA a9 aB)).bind fun aC =>
  (Ch F aC (⟨#[58]⟩:ByteArray)).bind fun aD =>
  exc aD (fun a1=>some (.error (a1.1,(sift_reader.mk a1.2.s a1.2.at_ a1.2.token a1.2.from_)))) fun aE =>
  (Cg F (Au F) aE).bind fun aF =>
  exc aF (fun a2=>some (.error (a2.1,(sift_reader.mk a2.2.s a2.2.at_ a2.2.token a2.2.from_)))) fun a0 =>
  (Ch F (sift_reader.mk a0.2.s a0.2.at_ a0.2.token a0.2.from_) (⟨#[59]⟩:ByteArray)).bind fun aG =>
  exc aG (fun a3=>some (.error (a3.1,(sift_reader.mk a3.2.s a3.2.at_ a3.2.token a3.2.from_)))) fun a4 =>
  (apd 72 a5 ([(sift_Rule.mk a7 (sift_Node.mk a0.1.Op a0.1.Value_ a0.1.Rays a0.1.Gates a0.1.Args))])).bind fun a6 =>
  k2 a4.s a4.at_ a4.token a4.from_ a6
def Eb (F:Nat) (k2:(ByteArray→Int→ByteArray→Int→(List sift_Rule)→Option (Except (Value×sift_reader) ((List sift_Rule)×sift_reader)))) (a3:ByteArray) (a6:Int) (a0:ByteArray) (a4:Int) (a5:(List sift_Rule)):Option (Except (Value×sift_reader) ((List sift_Rule)×sift_reader)) :=
  bif (decide (a4<((a3.size:Nat):Int))) then (bif (sEq a0 (⟨#[]⟩:ByteArray)) then ((gd ((true==false&&true)) (sift_word F a0) default).bind fun aE =>
  (Cx F (sift_reader.mk a3 a6 a0 a4)).bind fun aB =>
  exc aB (fun a1=>some (.error (a1.1,(sift_reader.mk a1.2.s a1.2.at_ a1.2.token a1.2.from_)))) fun a7 =>
  Dc F a0 a5 k2 a7.s a7.at_ a7.token a7.from_) else ((Ei a0 0 1).bind fun aA =>
  (Am F (⟨#[97,98,99,100,101,102,103,104,105,106,107,108,109,110,111,112,113,114,115,116,117,118,119,120,121,122]⟩:ByteArray) aA).bind fun a9 =>
  (gd (((!a9)==false&&true)) (sift_word F a0) default).bind fun aC =>
  bif (bif (bif (!a9) then true else aC) then true else (decide (((a0.size:Nat):Int)>12))) then ((Cx F (sift_reader.mk a3 a6 a0 a4)).bind fun aD =>
  exc aD (fun a2=>some (.error (a2.1,(sift_reader.mk a2.2.s a2.2.at_ a2.2.token a2.2.from_)))) fun a8 =>
  Dc F a0 a5 k2 a8.s a8.at_ a8.token a8.from_) else (Dc F a0 a5 k2 a3 a6 a0 a4))) else (Hm a3 a6 a0 a4 a5)
def Dd (F:Nat):Nat→ByteArray→Int→ByteArray→Int→(List sift_Rule)→Option (Except (Value×sift_reader) ((List sift_Rule)×sift_reader))
  | 0,_,_,_,_,_=>none
  | n+1,a1,a3,a2,a4,a0=>Eb F (Dd F n) a1 a3 a2 a4 a0
def Ed (F:Nat) (p0:sift_reader):Option (Except (Value×sift_reader) ((List sift_Rule)×sift_reader)) :=
  (Ae F p0).bind fun a0 =>
  Dd F F a0.s a0.at_ a0.token a0.from_ ([])
def Ef (F:Nat) (p0:ByteArray):Option ((List sift_Rule)×Int×Int) :=
  bif (decide (((p0.size:Nat):Int)>65536)) then (some (([]:(List sift_Rule)),0,8)) else ((Ed F (sift_reader.mk p0 0 ByteArray.empty 0)).bind fun y5 =>
  exc y5 (fun e7=>(asI 146 .i64 e7.1).bind fun a1 =>
  some (([]:(List sift_Rule)),a1,7)) fun y6 =>
  (Gx F y6.1).bind fun a0 =>
  bif (a0 != 0) then (some (([]:(List sift_Rule)),0,a0)) else (some (y6.1,0,0)))
def Lv:Option Bool :=
  some true
def Lu (p0:(List Int)) (p1:(List Int)) (k2:(Int→Option Bool)) (a0:Int):Option Bool :=
  bif (decide (a0<((p0.length:Nat):Int))) then ((B5 p0 a0).bind fun a1 =>
  (B5 p1 a0).bind fun a2 =>
  bif (a1 != a2) then (some false) else ((ck (a0+1)).bind fun a3 =>
  k2 a3)) else (Lv)
def Jj (p0:(List Int)) (p1:(List Int)):Nat→Int→Option Bool
  | 0,_=>none
  | n+1,a0=>Lu p0 p1 (Jj p0 p1 n) a0
def Pd (F:Nat) (p0:(List Int)) (p1:(List Int)):Option Bool :=
  bif (((p0.length:Nat):Int) != ((p1.length:Nat):Int)) then (some false) else (Jj p0 p1 F 0)
def Mz (F:Nat) (p0:sift_Node) (p2:api_Sweep) (p3:Int) (p4:Int):Option (Except Int (sift_scan×Int)) :=
  (El F p0 300).bind fun a1 =>
  bif (decide (a1>300)) then (some (.error 9)) else ((Hl F p0).bind fun a2 =>
  bif (decide (a2>12)) then (some (.error 24)) else ((gd (((!(sift_isCondition p0))==false&&true)) (Dl F p0) default).bind fun a3 =>
  bif (bif (!(sift_isCondition p0)) then true else (!a3)) then (some (.error 2)) else ((Jm F p2).bind fun a0 =>
  bif (a0 != 0) then (some (.error a0)) else (bif (bif (bif (decide ((if p4<p3 then p4 else p3)<0)) then true else (decide (p3≥((p2.Rays.length:Nat):Int)))) then true else (decide (p4≥p2.Site.Gates))) then (some (.error 4)) else ((Nf F p2).bind fun a4 =>
  some (.ok (a4,0)))))))
def Ub (F:Nat) (p0:sift_Node) (p1:api_Sweep) (p2:Int) (p3:Int):Option (Int×Int) :=
  (Mz F p0 p1 p2 p3).bind fun a5 =>
  exc a5 (fun a1=>bif (a1 != 0) then (some (0,a1)) else (none)) (fun a0=>bif (a0.2 != 0) then (some (0,a0.2)) else ((ck (p2*p1.Site.Gates)).bind fun a3 =>
  (ck (a3+p3)).bind fun a4 =>
  (Mt F (sift_scan.mk (api_Sweep.mk (api_Site.mk a0.1.s.Site.Name a0.1.s.Site.X a0.1.s.Site.Y a0.1.s.Site.Z a0.1.s.Site.Rose a0.1.s.Site.Gates a0.1.s.Site.Step a0.1.s.Site.Width) a0.1.s.Tilt a0.1.s.Time a0.1.s.Rays) a0.1.n a0.1.tests a0.1.values) p0).bind fun a6 =>
  (B5 a6.1 a4).bind fun a2 =>
  some (a2,0)))
def Ah (p0:Int) (p1:Int):api_Span :=
  (api_Span.mk p0 p1)
def Lt (a0:(List (List api_Echo))):Option api_Sweep :=
  (B5 a0 0).bind fun a1 =>
  (B5 a1 1).bind fun a4 =>
  (Mx a1 1 (api_Echo.mk 2 (Ah 10 20) ((api_Span.mk 0 0),(api_Span.mk 0 0)) 7 (Ah 100 100) (Ah 900 950) (api_Span.mk 0 0))).bind fun a2 =>
  (Mx a0 0 a2).bind fun a3 =>
  some (api_Sweep.mk (api_Site.mk (⟨#[115]⟩:ByteArray) 0 0 0 1 2 500 0) 3 0 a3)
def Ls (k2:((List (List api_Echo))→Int→Option api_Sweep)) (a0:(List (List api_Echo))) (a1:Int):Option api_Sweep :=
  bif (decide (a1<4)) then ((apd 24 a0 ([[(api_Echo.mk 1 (Ah 0 5) ((api_Span.mk 0 0),(api_Span.mk 0 0)) 0 (api_Span.mk 0 0) (api_Span.mk 0 0) (api_Span.mk 0 0)),(api_Echo.mk 1 (Ah 0 5) ((api_Span.mk 0 0),(api_Span.mk 0 0)) 0 (api_Span.mk 0 0) (api_Span.mk 0 0) (api_Span.mk 0 0))]])).bind fun a2 =>
  (ck (a1+1)).bind fun a3 =>
  k2 a2 a3) else (Lt a0)
def Ji:Nat→(List (List api_Echo))→Int→Option api_Sweep
  | 0,_,_=>none
  | n+1,a0,a1=>Ls (Ji n) a0 a1
def M8 (F:Nat):Option api_Sweep :=
  Ji F ([]) 0
def Fm (F:Nat) (p0:ByteArray) (p1:Int):Option Bool :=
  (Lp (⟨#[97,58,32]⟩:ByteArray) p0).bind fun s1 =>
  (Lp s1 (⟨#[59]⟩:ByteArray)).bind fun s2 =>
  (Ef F s2).bind fun y4 =>
  bif (bif (y4.2.2 != 0) then true else (((y4.1.length:Nat):Int) != 1)) then (some false) else ((B5 y4.1 0).bind fun a1 =>
  (M8 F).bind fun a2 =>
  (Ub F a1.When a2 0 1).bind fun a0 =>
  some (bif (a0.2==0) then (a0.1==p1) else false))
def Mi (F:Nat):Option Bool :=
  (Ef F (⟨#[97,58,32,112,111,119,101,114,32,62,32,52,32,97,110,100,32,110,111,116,32,109,97,116,99,104,32,62,61,32,57,48,48,32,111,114,32,116,105,108,116,32,61,32,51,59]⟩:ByteArray)).bind fun y2 =>
  (Gy F y2.1).bind fun y9 =>
  (Ef F (⟨#[97,58,32,40,112,111,119,101,114,41,32,60,32,51,59]⟩:ByteArray)).bind fun a8 =>
  (Ef F (⟨#[110,111,116,58,32,116,114,117,101,59]⟩:ByteArray)).bind fun aD =>
  bif (bif (bif (bif (bif (bif (bif (bif (y2.2.2 != 0) then true else (y9.2 != 0)) then true else (a8.2.2 != 7)) then true else (aD.2.2 != 7)) then true else (y2.2.1 != 0)) then true else (a8.2.1 != 9)) then true else (aD.2.1 != 0)) then true else (!(sEq y9.1 (⟨#[97,58,32,40,40,40,112,111,119,101,114,32,62,32,52,41,32,97,110,100,32,110,111,116,32,40,109,97,116,99,104,32,62,61,32,57,48,48,41,41,32,111,114,32,40,116,105,108,116,32,61,32,51,41,41,59,10]⟩:ByteArray)))) then (some false) else ((Fm F (⟨#[112,111,119,101,114,32,62,32,57]⟩:ByteArray) 1).bind fun a0 =>
  (gd (((!a0)==false&&true)) (Fm F (⟨#[112,111,119,101,114,32,62,32,49,48]⟩:ByteArray) 2) default).bind fun a1 =>
  (gd (((bif (!a0) then true else (!a1))==false&&true)) (Fm F (⟨#[112,111,119,101,114,32,62,32,50,48]⟩:ByteArray) 3) default).bind fun a3 =>
  (gd (((bif (bif (!a0) then true else (!a1)) then true else (!a3))==false&&true)) (Fm F (⟨#[116,117,114,110,32,61,32,48]⟩:ByteArray) 3) default).bind fun a4 =>
  (gd (((bif (bif (bif (!a0) then true else (!a1)) then true else (!a3)) then true else (!a4))==false&&true)) (Fm F (⟨#[110,111,116,32,116,117,114,110,32,61,32,48]⟩:ByteArray) 1) default).bind fun a5 =>
  (gd (((bif (bif (bif (bif (!a0) then true else (!a1)) then true else (!a3)) then true else (!a4)) then true else (!a5))==false&&true)) (Fm F (⟨#[99,111,117,110,116,32,49,32,49,32,107,105,110,100,32,61,32,49,32,61,32,53]⟩:ByteArray) 1) default).bind fun a7 =>
  (gd (((bif (bif (bif (bif (bif (!a0) then true else (!a1)) then true else (!a3)) then true else (!a4)) then true else (!a5)) then true else (!a7))==false&&true)) (Fm F (⟨#[99,111,117,110,116,32,51,32,51,32,112,111,119,101,114,32,62,32,52,32,60,32,56]⟩:ByteArray) 1) default).bind fun aE =>
  (gd (((bif (bif (bif (bif (bif (bif (!a0) then true else (!a1)) then true else (!a3)) then true else (!a4)) then true else (!a5)) then true else (!a7)) then true else (!aE))==false&&true)) (Fm F (⟨#[97,108,108,32,48,32,48,32,102,97,108,115,101]⟩:ByteArray) 1) default).bind fun aQ =>
  bif (bif (bif (bif (bif (bif (bif (bif (!a0) then true else (!a1)) then true else (!a3)) then true else (!a4)) then true else (!a5)) then true else (!a7)) then true else (!aE)) then true else (!aQ)) then (some false) else ((Ef F (⟨#[97,58,32,109,97,116,99,104,32,60,32,57,50,48,59,32,98,58,32,107,105,110,100,32,61,32,50,59,32,99,58,32,116,114,117,101,59]⟩:ByteArray)).bind fun aF =>
  (M8 F).bind fun aR =>
  (Sr F aF.1 aR).bind fun a2 =>
  bif (bif (bif (aF.2.2 != 0) then true else (a2.2 != 0)) then true else (((a2.1.length:Nat):Int) != 4)) then (some false) else ((B5 a2.1 0).bind fun aK =>
  bif (((aK.length:Nat):Int) != 2) then (some false) else ((B5 a2.1 0).bind fun aL =>
  (B5 aL 1).bind fun aM =>
  bif (aM.Rule != 1) then (some false) else ((B5 a2.1 0).bind fun aN =>
  (B5 aN 1).bind fun aO =>
  (Pd F aO.Doubts ([0])).bind fun aP =>
  bif (!aP) then (some false) else ((B5 a2.1 0).bind fun aG =>
  (B5 aG 0).bind fun aH =>
  bif (aH.Rule != 2) then (some false) else ((B5 a2.1 0).bind fun aI =>
  (B5 aI 0).bind fun aJ =>
  bif (((aJ.Doubts.length:Nat):Int) != 0) then (some false) else ((Ef F (⟨#[97,58,32,115,111,109,101,32,49,32,50,32,99,111,117,110,116,32,50,32,48,32,112,111,119,101,114,32,62,32,49,32,62,32,51,59]⟩:ByteArray)).bind fun a9 =>
  (Su F a9.1).bind fun a6 =>
  (Ef F (⟨#[97,58,32,110,111,116,32,40,112,111,119,101,114,32,62,32,49,32,97,110,100,32,110,111,116,32,115,111,109,101,32,49,32,49,32,116,114,117,101,41,59]⟩:ByteArray)).bind fun aA =>
  (Ss F aA.1).bind fun aB =>
  (Gy F aB.1).bind fun aC =>
  some (bif (bif (bif (bif (bif (bif (bif (a9.2.2==0) then (a6.2.2==0) else false) then (aA.2.2==0) else false) then (aB.2==0) else false) then (aC.2==0) else false) then (a6.1==3) else false) then (a6.2.1==2) else false) then (sEq aC.1 (⟨#[97,58,32,40,110,111,116,32,40,112,111,119,101,114,32,62,32,49,41,32,111,114,32,115,111,109,101,32,49,32,49,32,116,114,117,101,41,59,10]⟩:ByteArray)) else false)))))))))
def C4 (F:Nat) (p0:(List Int)) (p1:Int):Option (Int×(List Int)) :=
  bif (((p0.length:Nat):Int)==0) then (some (0,p0)) else ((B5 p0 0).bind fun u4 =>
  (ck u4).bind fun x5 =>
  (U8 x5 p1).bind fun x6 =>
  (Qw p0 1 ((p0.length:Nat):Int)).bind fun l7 =>
  some (x6,l7))
abbrev Bn:=(List Int)→Int→Bool→Option (sift_Node×(List Int))
abbrev C3:=(List Int)→Int→Bool→Option (sift_Node×(List Int))
def C8 (F:Nat) (s71_:Bn) (s42_:C3) (p1:Int) (p2:Bool) (a7:(List Int)) (a0:Int):Option (sift_Node×(List Int)) :=
  bif (decide (a0≤2)) then (some ((sift_Node.mk a0 0 0 0 ([]:(List sift_Node))),a7)) else (bif (a0==3) then ((ck (p1-1)).bind fun aC =>
  (s71_ a7 aC p2).bind fun a3 =>
  some ((sift_Node.mk a0 0 0 0 ([(sift_Node.mk a3.1.Op a3.1.Value_ a3.1.Rays a3.1.Gates a3.1.Args)])),a3.2)) else (bif (decide (a0≤5)) then ((ck (p1-1)).bind fun aD =>
  (s71_ a7 aD p2).bind fun a4 =>
  (ck (p1-1)).bind fun aE =>
  (s71_ a4.2 aE p2).bind fun a5 =>
  some ((sift_Node.mk a0 0 0 0 ([(sift_Node.mk a4.1.Op a4.1.Value_ a4.1.Rays a4.1.Gates a4.1.Args),(sift_Node.mk a5.1.Op a5.1.Value_ a5.1.Rays a5.1.Gates a5.1.Args)])),a5.2)) else (bif (decide (a0≤7)) then ((C4 F a7 3).bind fun a8 =>
  (C4 F a8.2 3).bind fun a9 =>
  (ck (p1-1)).bind fun aF =>
  (s71_ a9.2 aF p2).bind fun a6 =>
  some ((sift_Node.mk a0 0 a8.1 a9.1 ([(sift_Node.mk a6.1.Op a6.1.Value_ a6.1.Rays a6.1.Gates a6.1.Args)])),a6.2)) else ((ck (p1-1)).bind fun aA =>
  (s42_ a7 aA p2).bind fun a1 =>
  (ck (p1-1)).bind fun aB =>
  (s42_ a1.2 aB p2).bind fun a2 =>
  some ((sift_Node.mk a0 0 0 0 ([(sift_Node.mk a1.1.Op a1.1.Value_ a1.1.Rays a1.1.Gates a1.1.Args),(sift_Node.mk a2.1.Op a2.1.Value_ a2.1.Rays a2.1.Gates a2.1.Args)])),a2.2)))))
def Di (F:Nat) (s71_:Bn) (s42_:C3) (p0:(List Int)) (p1:Int) (p2:Bool):Option (sift_Node×(List Int)) :=
  (C4 F p0 13).bind fun y5 =>
  (ck (1+y5.1)).bind fun a0 =>
  bif (bif (decide (p1<3)) then (decide (a0<8)) else false) then ((C4 F y5.2 6).bind fun a1 =>
  (ck (8+a1.1)).bind fun a2 =>
  C8 F s71_ s42_ p1 p2 a1.2 a2) else (C8 F s71_ s42_ p1 p2 y5.2 a0)
def D7 (s42_:C3) (p1:Int) (p2:Bool) (y5:(Int×(List Int))) (a2:Int) (a3:Bool):Option (sift_Node×(List Int)) :=
  bif a3 then ((s42_ y5.2 1 p2).bind fun a0 =>
  (ck (p1-1)).bind fun a4 =>
  (s42_ a0.2 a4 p2).bind fun a1 =>
  some ((sift_Node.mk a2 0 0 0 ([(sift_Node.mk a1.1.Op a1.1.Value_ a1.1.Rays a1.1.Gates a1.1.Args),(sift_Node.mk a0.1.Op a0.1.Value_ a0.1.Rays a0.1.Gates a0.1.Args)])),a1.2)) else (some ((sift_Node.mk a2 0 0 0 ([]:(List sift_Node))),y5.2))
def C6 (F:Nat) (s71_:Bn) (s42_:C3) (p1:Int) (p2:Bool) (y5:(Int×(List Int))) (a0:Int):Option (sift_Node×(List Int)) :=
  bif (a0==14) then ((C4 F y5.2 256).bind fun a2 =>
  some ((sift_Node.mk a0 a2.1 0 0 ([]:(List sift_Node))),a2.2)) else (bif (a0==25) then ((C4 F y5.2 3).bind fun a3 =>
  (C4 F a3.2 3).bind fun a4 =>
  (ck (p1-1)).bind fun a5 =>
  (s71_ a4.2 a5 p2).bind fun a1 =>
  some ((sift_Node.mk a0 0 a3.1 a4.1 ([(sift_Node.mk a1.1.Op a1.1.Value_ a1.1.Rays a1.1.Gates a1.1.Args)])),a1.2)) else (bif (a0==26) then (D7 s42_ p1 p2 y5 a0 (a0==26)) else (D7 s42_ p1 p2 y5 a0 (a0==27))))
def F2 (F:Nat) (s71_:Bn) (s42_:C3) (p0:(List Int)) (p1:Int) (p2:Bool):Option (sift_Node×(List Int)) :=
  (C4 F p0 14).bind fun y5 =>
  (ck (14+y5.1)).bind fun a0 =>
  bif (bif (bif (bif (!p2) then (a0==22) else false) then true else (bif (decide (p1<2)) then (decide (a0≥25)) else false)) then true else (bif (decide (p1<4)) then (a0==25) else false)) then (C6 F s71_ s42_ p1 p2 y5 14) else (C6 F s71_ s42_ p1 p2 y5 a0)
def Ax:Nat→Bn×C3
  | 0=>(fun _ _ _=>none,fun _ _ _=>none)
  | F+1=>(Di F (Ax F).1 (Ax F).2,F2 F (Ax F).1 (Ax F).2)
def Bp (F:Nat):Bn:=(Ax F).1
def Cw (F:Nat):C3:=(Ax F).2
def Hv (a0:(List Int)) (a1:(List sift_Rule)):Option ((List sift_Rule)×(List Int)) :=
  some (a1,a0)
def Er (F:Nat) (p2:Bool) (a6:Int) (k2:((List Int)→Int→(List sift_Rule)→Option ((List sift_Rule)×(List Int)))) (a2:(List Int)) (a1:Int) (a3:(List sift_Rule)):Option ((List sift_Rule)×(List Int)) :=
  bif (decide (a1<a6)) then ((B5 ([(⟨#[97]⟩:ByteArray),(⟨#[98,49]⟩:ByteArray),(⟨#[99,95]⟩:ByteArray),(⟨#[100,100,100,100,100,100,100,100,100,100,100,100]⟩:ByteArray)]) a1).bind fun a5 =>
  (Bp F a2 5 p2).bind fun a0 =>
  (apd 72 a3 ([(sift_Rule.mk a5 (sift_Node.mk a0.1.Op a0.1.Value_ a0.1.Rays a0.1.Gates a0.1.Args))])).bind fun a4 =>
  (ck (a1+1)).bind fun a7 =>
  k2 a0.2 a7 a4) else (Hv a2 a3)
def Es (F:Nat) (p2:Bool) (a0:Int):Nat→(List Int)→Int→(List sift_Rule)→Option ((List sift_Rule)×(List Int))
  | 0,_,_,_=>none
  | n+1,a1,a3,a2=>Er F p2 a0 (Es F p2 a0 n) a1 a3 a2
def Ew (F:Nat) (p0:(List Int)) (p1:Int) (p2:Bool):Option ((List sift_Rule)×(List Int)) :=
  (ck p1).bind fun a0 =>
  (U8 a0 5).bind fun a1 =>
  Es F p2 a1 F p0 0 ([])
def Gr (F:Nat) (p0:(List Int)) (p1:Int) (p2:Int):Option Int :=
  bif (((p0.length:Nat):Int)==0) then (some 0) else ((U8 p1 ((p0.length:Nat):Int)).bind fun x4 =>
  (B5 p0 x4).bind fun u5 =>
  (ck u5).bind fun x6 =>
  (U8 x6 p2).bind fun x7 =>
  some x7)
def Nl:Option Bool :=
  some true
def Bi (self_:(sift_Node→sift_Node→Option Bool)) (p0:sift_Node) (p1:sift_Node) (k2:(Int→Option Bool)) (a0:Int):Option Bool :=
  bif (decide (a0<((p0.Args.length:Nat):Int))) then ((B5 p0.Args a0).bind fun a1 =>
  (B5 p1.Args a0).bind fun a2 =>
  (self_ a1 a2).bind fun a4 =>
  bif (!a4) then (some false) else ((ck (a0+1)).bind fun a3 =>
  k2 a3)) else (Nl)
def By (self_:(sift_Node→sift_Node→Option Bool)) (p0:sift_Node) (p1:sift_Node):Nat→Int→Option Bool
  | 0,_=>none
  | n+1,a0=>Bi self_ p0 p1 (By self_ p0 p1 n) a0
def Ej (F:Nat) (self_:sift_Node→sift_Node→Option Bool) (p0:sift_Node) (p1:sift_Node):Option Bool :=
  bif (bif (bif (bif (bif (p0.Op != p1.Op) then true else (p0.Value_ != p1.Value_)) then true else (p0.Rays != p1.Rays)) then true else (p0.Gates != p1.Gates)) then true else (((p0.Args.length:Nat):Int) != ((p1.Args.length:Nat):Int))) then (some false) else (By self_ p0 p1 F 0)
def Ck:Nat→sift_Node→sift_Node→Option Bool
  | 0,_,_=>none
  | F+1,p0,p1=>Ej F (Ck F) p0 p1
def Nm:Option Bool :=
  some true
def Fu (F:Nat) (p0:(List sift_Rule)) (p1:(List sift_Rule)) (k2:(Int→Option Bool)) (a0:Int):Option Bool :=
  bif (decide (a0<((p0.length:Nat):Int))) then ((B5 p0 a0).bind fun a1 =>
  (B5 p1 a0).bind fun a2 =>
  bif (!(sEq a1.Name a2.Name)) then (bif (bif (!(sEq a1.Name a2.Name)) then true else true) then (some false) else ((ck (a0+1)).bind fun a5 =>
  k2 a5)) else ((B5 p0 a0).bind fun a3 =>
  (B5 p1 a0).bind fun a4 =>
  (Ck F a3.When a4.When).bind fun a7 =>
  bif (bif (!(sEq a1.Name a2.Name)) then true else (!a7)) then (some false) else ((ck (a0+1)).bind fun a6 =>
  k2 a6))) else (Nm)
def Gj (F:Nat) (p0:(List sift_Rule)) (p1:(List sift_Rule)):Nat→Int→Option Bool
  | 0,_=>none
  | n+1,a0=>Fu F p0 p1 (Gj F p0 p1 n) a0
def Fl (F:Nat) (p0:(List sift_Rule)) (p1:(List sift_Rule)):Option Bool :=
  bif (((p0.length:Nat):Int) != ((p1.length:Nat):Int)) then (some false) else (Gj F p0 p1 F 0)
def Cz (F:Nat) (a5:((List sift_Rule)×(List Int))) (a2:ByteArray):Option Bool :=
  (Lp a2 (⟨#[32,35,32,101,110,100]⟩:ByteArray)).bind fun a3 =>
  (Ef F a3).bind fun a0 =>
  (gd (((bif (a0.2.2==0) then (a0.2.1==0) else false)==true&&true)) (Fl F a0.1 a5.1) default).bind fun a1 =>
  (gd (((bif (bif (a0.2.2==0) then (a0.2.1==0) else false) then a1 else false)==true&&true)) (Mi F) default).bind fun a4 =>
  some (bif (bif (bif (a0.2.2==0) then (a0.2.1==0) else false) then a1 else false) then a4 else false)
def Fs (a3:Int) (k2:(ByteArray→Int→Option Bool)) (a2:Int) (a0:ByteArray):Option Bool :=
  (Lp a0 (bst ([a2]))).bind fun a1 =>
  (ck (a3+1)).bind fun a4 =>
  k2 a1 a4
def Fq (F:Nat) (p4:(List Int)) (a6:((List sift_Rule)×(List Int))) (a3:(List Int)) (k2:(ByteArray→Int→Option Bool)) (a2:ByteArray) (a1:Int):Option Bool :=
  bif (decide (a1<((a3.length:Nat):Int))) then ((B5 a3 a1).bind fun a0 =>
  bif (bif (bif (bif (bif (a0==32) then true else (a0==40)) then true else (a0==41)) then true else (a0==59)) then true else (a0==58)) then ((Gr F p4 a1 5).bind fun a7 =>
  (B5 ([(⟨#[]⟩:ByteArray),(⟨#[32]⟩:ByteArray),(⟨#[9,13]⟩:ByteArray),(⟨#[35,32,40,32,59,10]⟩:ByteArray),(⟨#[10,10,32,32]⟩:ByteArray)]) a7).bind fun a5 =>
  (Lp a2 a5).bind fun a4 =>
  Fs a1 k2 a0 a4) else (Fs a1 k2 a0 a2)) else (Cz F a6 a2)
def Ft (F:Nat) (p4:(List Int)) (a1:((List sift_Rule)×(List Int))) (a0:(List Int)):Nat→ByteArray→Int→Option Bool
  | 0,_,_=>none
  | n+1,a2,a3=>Fq F p4 a1 a0 (Ft F p4 a1 a0 n) a2 a3
def He (F:Nat) (p0:(List Int)) (p1:(List Int)) (p2:Int) (p3:Int) (p4:(List Int)):Option Bool :=
  (Ew F p0 p2 true).bind fun a3 =>
  (Ew F p1 p3 true).bind fun a5 =>
  (Gy F a3.1).bind fun a0 =>
  (Gy F a5.1).bind fun a4 =>
  (Ef F a0.1).bind fun a1 =>
  (Gy F a1.1).bind fun a2 =>
  (gd (((bif (bif (bif (bif (bif (a0.2 != 0) then true else (a4.2 != 0)) then true else (a1.2.2 != 0)) then true else (a2.2 != 0)) then true else (a1.2.1 != 0)) then true else (!(sEq a2.1 a0.1)))==false&&true)) (Fl F a1.1 a3.1) default).bind fun a6 =>
  (gd (((bif (bif (bif (bif (bif (bif (a0.2 != 0) then true else (a4.2 != 0)) then true else (a1.2.2 != 0)) then true else (a2.2 != 0)) then true else (a1.2.1 != 0)) then true else (!(sEq a2.1 a0.1))) then true else (!a6))==false&&true)) (Fl F a3.1 a5.1) default).bind fun a8 =>
  bif (bif (bif (bif (bif (bif (bif (bif (a0.2 != 0) then true else (a4.2 != 0)) then true else (a1.2.2 != 0)) then true else (a2.2 != 0)) then true else (a1.2.1 != 0)) then true else (!(sEq a2.1 a0.1))) then true else (!a6)) then true else (!((sEq a0.1 a4.1)==a8))) then (some false) else ((s2b a0.1).bind fun a7 =>
  Ft F p4 a3 a7 F (⟨#[]⟩:ByteArray) 0)
end Go.Proofs.YtkjnafecmjakcaaGreatDoor
