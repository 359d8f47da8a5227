import Derived.Test.YtbhjgebjojdohaaF10EB
namespace Go.Proofs.Ytbhjgebjojdohaa
open Go Go.RowKit Go.Eng
set_option maxRecDepth 10000
set_option maxHeartbeats 4000000
set_option linter.unusedVariables false
set_option linter.unusedSimpArgs false
structure pulse_Train where
  Lambda:Int
  Kind:Int
  First:Int
  Second:Int
  Count:Int
  deriving Inhabited,DecidableEq
def pulse_Train.cells (x:pulse_Train):List Value:=[.int .i64 x.Lambda,.int .i64 x.Kind,.int .i64 x.First,.int .i64 x.Second,.int .i64 x.Count]
structure api_Span where
  Lo:Int
  Hi:Int
  deriving Inhabited,DecidableEq
def api_Span.cells (x:api_Span):List Value:=[.int .i64 x.Lo,.int .i64 x.Hi]
theorem api_Span.cells_len (x:api_Span):(api_Span.cells x).length=2:=rfl
structure api_Echo where
  Kind:Int
  Power:api_Span
  Steps:(api_Span×api_Span)
  Spread:Int
  Ratio:api_Span
  Match:api_Span
  Turn:api_Span
  deriving Inhabited,DecidableEq
def api_Echo.cells (x:api_Echo):List Value:=[.int .i64 x.Kind,.int .i64 x.Power.Lo,.int .i64 x.Power.Hi,.int .i64 x.Steps.1.Lo,.int .i64 x.Steps.1.Hi,.int .i64 x.Steps.2.Lo,.int .i64 x.Steps.2.Hi,.int .i64 x.Spread,.int .i64 x.Ratio.Lo,.int .i64 x.Ratio.Hi,.int .i64 x.Match.Lo,.int .i64 x.Match.Hi,.int .i64 x.Turn.Lo,.int .i64 x.Turn.Hi]
structure fold_option where
  whole:Int
  speed:api_Span
  deriving Inhabited,DecidableEq
def fold_option.cells (x:fold_option):List Value:=[.int .i64 x.whole,.int .i64 x.speed.Lo,.int .i64 x.speed.Hi]
structure fold_Guess where
  Whole:(Int×Int)
  Speed:api_Span
  deriving Inhabited,DecidableEq
def fold_Guess.cells (x:fold_Guess):List Value:=[.int .i64 x.Whole.1,.int .i64 x.Whole.2,.int .i64 x.Speed.Lo,.int .i64 x.Speed.Hi]
structure ref02_Train where
  Lambda:Int
  Kind:Int
  First:Int
  Second:Int
  Count:Int
  deriving Inhabited,DecidableEq
def ref02_Train.cells (x:ref02_Train):List Value:=[.int .i64 x.Lambda,.int .i64 x.Kind,.int .i64 x.First,.int .i64 x.Second,.int .i64 x.Count]
structure ref03_Guess where
  Whole:(Int×Int)
  Speed:api_Span
  deriving Inhabited,DecidableEq
def ref03_Guess.cells (x:ref03_Guess):List Value:=[.int .i64 x.Whole.1,.int .i64 x.Whole.2,.int .i64 x.Speed.Lo,.int .i64 x.Speed.Hi]
structure fold_place where
  ray:Int
  gate:Int
  deriving Inhabited,DecidableEq
def fold_place.cells (x:fold_place):List Value:=[.int .i64 x.ray,.int .i64 x.gate]
theorem fold_place.cells_len (x:fold_place):(fold_place.cells x).length=2:=rfl
structure fold_bond where
  to:fold_place
  most:Int
  deriving Inhabited,DecidableEq
def fold_bond.cells (x:fold_bond):List Value:=[.int .i64 x.to.ray,.int .i64 x.to.gate,.int .i64 x.most]
theorem fold_bond.cells_len (x:fold_bond):(fold_bond.cells x).length=3:=rfl
structure fold_web where
  sets:(List (List (List api_Span)))
  bonds:(List (fold_place×(List fold_bond)))
  deriving Inhabited,DecidableEq
structure ref03_Place where
  Ray:Int
  Gate:Int
  deriving Inhabited,DecidableEq
def ref03_Place.cells (x:ref03_Place):List Value:=[.int .i64 x.Ray,.int .i64 x.Gate]
structure ref03_Link where
  A:ref03_Place
  B:ref03_Place
  Most:Int
  deriving Inhabited,DecidableEq
def ref03_Link.cells (x:ref03_Link):List Value:=[.int .i64 x.A.Ray,.int .i64 x.A.Gate,.int .i64 x.B.Ray,.int .i64 x.B.Gate,.int .i64 x.Most]
abbrev fold_bond.ar (x:fold_bond):Array Value:=#[.int .i64 x.to.ray,.int .i64 x.to.gate,.int .i64 x.most]
abbrev fold_bond.ag (x:fold_bond):Value:=.agg #[.int .i64 x.to.ray,.int .i64 x.to.gate,.int .i64 x.most]
def Rp43:Rel (List api_Span):=fun μ cs x=>∃(ad1:Option Addr) (cap2:Nat),cs=[.slice ad1 x.length cap2]∧ArrM μ 2 api_Span.cells ad1 cap2 x
theorem Rp43.mono:Rel.Mono Rp43:=by
  intro μ ν cs x hle h
  obtain ⟨ad1,cap2,rfl,f0⟩:=h
  exact ⟨ad1,cap2,rfl,f0.mono hle⟩
theorem Rp43.one:Rel.One 1 Rp43:=by
  intro μ cs x h
  obtain ⟨ad1,cap2,rfl,f0⟩:=h
  all_goals rfl
def Rp132:Rel (List api_Span):=fun μ cs x=>∃(ad1:Option Addr) (cap2:Nat),cs=[.slice ad1 x.length cap2]∧ArrM μ 2 api_Span.cells ad1 cap2 x
theorem Rp132.mono:Rel.Mono Rp132:=by
  intro μ ν cs x hle h
  obtain ⟨ad1,cap2,rfl,f0⟩:=h
  exact ⟨ad1,cap2,rfl,f0.mono hle⟩
theorem Rp132.one:Rel.One 1 Rp132:=by
  intro μ cs x h
  obtain ⟨ad1,cap2,rfl,f0⟩:=h
  all_goals rfl
def Rp135:Rel (List (List api_Span)):=fun μ cs x=>∃(ad1:Option Addr) (cap2:Nat) (css3:List (List Value)),cs=[.slice ad1 x.length cap2]∧ArrQ μ 1 Rp132 ad1 cap2 css3 x
theorem Rp135.mono:Rel.Mono Rp135:=by
  intro μ ν cs x hle h
  obtain ⟨ad1,cap2,css3,rfl,f0⟩:=h
  exact ⟨ad1,cap2,css3,rfl,f0.mono Rp132.mono hle⟩
theorem Rp135.one:Rel.One 1 Rp135:=by
  intro μ cs x h
  obtain ⟨ad1,cap2,css3,rfl,f0⟩:=h
  all_goals rfl
def Rp48:Rel (List (List api_Span)):=fun μ cs x=>∃(ad1:Option Addr) (cap2:Nat) (css3:List (List Value)),cs=[.slice ad1 x.length cap2]∧ArrQ μ 1 Rp43 ad1 cap2 css3 x
theorem Rp48.mono:Rel.Mono Rp48:=by
  intro μ ν cs x hle h
  obtain ⟨ad1,cap2,css3,rfl,f0⟩:=h
  exact ⟨ad1,cap2,css3,rfl,f0.mono Rp43.mono hle⟩
theorem Rp48.one:Rel.One 1 Rp48:=by
  intro μ cs x h
  obtain ⟨ad1,cap2,css3,rfl,f0⟩:=h
  all_goals rfl
def Rp91:Rel (List Int):=fun μ cs x=>∃(ad1:Option Addr) (cap2:Nat),cs=[.slice ad1 x.length cap2]∧ArrM μ 1 (fK .u8) ad1 cap2 x
theorem Rp91.mono:Rel.Mono Rp91:=by
  intro μ ν cs x hle h
  obtain ⟨ad1,cap2,rfl,f0⟩:=h
  exact ⟨ad1,cap2,rfl,f0.mono hle⟩
theorem Rp91.one:Rel.One 1 Rp91:=by
  intro μ cs x h
  obtain ⟨ad1,cap2,rfl,f0⟩:=h
  all_goals rfl
def Rp82:Rel (List (List Int)):=fun μ cs x=>∃(ad1:Option Addr) (cap2:Nat) (css3:List (List Value)),cs=[.slice ad1 x.length cap2]∧ArrQ μ 1 Rp91 ad1 cap2 css3 x
theorem Rp82.mono:Rel.Mono Rp82:=by
  intro μ ν cs x hle h
  obtain ⟨ad1,cap2,css3,rfl,f0⟩:=h
  exact ⟨ad1,cap2,css3,rfl,f0.mono Rp91.mono hle⟩
def Fg:Bool:=true
def spB (s:api_Span):Prop:=-4000000000000000000≤s.Lo∧s.Lo≤4000000000000000000
instance (s:api_Span):Decidable (spB s):=by unfold spB;infer_instance
instance:Inhabited {s:api_Span // spB s}:=⟨⟨⟨0,0⟩,by decide⟩⟩
def Jz (x y:{s:api_Span // spB s}):Int:=x.val.Lo-y.val.Lo
def F7 (F:Nat) (p0:List api_Span):Option (List api_Span) :=
  if h:(∀s∈p0,spB s)∧p0.length<4611686018427387904 then some ((Qz Jz (p0.pmap Subtype.mk h.1)).map Subtype.val) else none
def Aa (p0:api_Span) (p1:api_Span):(api_Span×Bool) :=
  ((api_Span.mk (if p1.Lo>p0.Lo then p1.Lo else p0.Lo) (if p1.Hi<p0.Hi then p1.Hi else p0.Hi)),decide ((if p1.Lo>p0.Lo then p1.Lo else p0.Lo)≤(if p1.Hi<p0.Hi then p1.Hi else p0.Hi)))
def L7 (p0:api_Span) (p1:api_Span):(api_Span×Bool) :=
  ((api_Span.mk (if p1.Lo>p0.Lo then p1.Lo else p0.Lo) (if p1.Hi<p0.Hi then p1.Hi else p0.Hi)),decide ((if p1.Lo>p0.Lo then p1.Lo else p0.Lo)≤(if p1.Hi<p0.Hi then p1.Hi else p0.Hi)))
def Ks:Option Int :=
  some 0
def Cv (p0:(List api_Span)) (p1:Bool) (k2:(Int→Option Int)) (a0:Int):Option Int :=
  bif (decide (a0<((p0.length:Nat):Int))) then ((Ad p0 a0).bind fun a1 =>
  bif (bif (bif (decide (a1.Lo>a1.Hi)) then true else (decide (a1.Lo<(-200000)))) then true else (decide (a1.Hi>200000))) then (some 3) else ((gd (((bif p1 then (decide (a0>0)) else false)==true&&true)) (ck (a0-1)) 0).bind fun a3 =>
  (gd (((bif p1 then (decide (a0>0)) else false)==true&&true)) (Ad p0 a3) default).bind fun a2 =>
  bif (bif (bif p1 then (decide (a0>0)) else false) then (decide (a1.Lo≤a2.Hi)) else false) then (some 12) else ((ck (a0+1)).bind fun a4 =>
  k2 a4))) else (Ks)
def Cg (p0:(List api_Span)) (p1:Bool):Nat→Int→Option Int
  | 0,_=>none
  | n+1,a0=>Cv p0 p1 (Cg p0 p1 n) a0
def Jo (F:Nat) (p0:(List api_Span)) (p1:Bool):Option Int :=
  bif (decide (((p0.length:Nat):Int)>256)) then (some 9) else (Cg p0 p1 F 0)
def Aw (F:Nat) (p0:(List api_Span)):Option (List api_Span) :=
  (apd 16 ([]:List api_Span) p0).bind fun l5 =>
  some l5
def Gq (a0:(List api_Span)):Option (List api_Span) :=
  some a0
def Cr (a1:Int) (k2:(Int→(List api_Span)→Option (List api_Span))) (a0:(List api_Span)):Option (List api_Span) :=
  (ck (a1+1)).bind fun a2 =>
  k2 a2 a0
def Bl (y9:(List api_Span)) (k2:(Int→(List api_Span)→Option (List api_Span))) (a2:Int) (a0:(List api_Span)):Option (List api_Span) :=
  bif (decide (a2<((y9.length:Nat):Int))) then ((Ad y9 a2).bind fun a1 =>
  (gd (((decide (((a0.length:Nat):Int)>0))==true&&true)) (ck (((a0.length:Nat):Int)-1)) 0).bind fun a9 =>
  (gd (((decide (((a0.length:Nat):Int)>0))==true&&true)) (Ad a0 a9) default).bind fun a7 =>
  bif (bif (decide (((a0.length:Nat):Int)>0)) then (decide (a1.Lo≤a7.Hi)) else false) then ((ck (((a0.length:Nat):Int)-1)).bind fun a4 =>
  (ck (((a0.length:Nat):Int)-1)).bind fun aA =>
  (Ad a0 aA).bind fun a3 =>
  (Ad a0 a4).bind fun a8 =>
  (D1 a0 a4 (api_Span.mk a8.Lo (if a1.Hi>a3.Hi then a1.Hi else a3.Hi))).bind fun a5 =>
  Cr a2 k2 a5) else ((apd 16 a0 ([a1])).bind fun a6 =>
  Cr a2 k2 a6)) else (Gq a0)
def Ay (y9:(List api_Span)):Nat→Int→(List api_Span)→Option (List api_Span)
  | 0,_,_=>none
  | n+1,a1,a0=>Bl y9 (Ay y9 n) a1 a0
def C0 (F:Nat) (p0:(List api_Span)):Option (List api_Span) :=
  (Aw F p0).bind fun y5 =>
  (F7 F y5).bind fun y9 =>
  Ay y9 F 0 ([])
def Lf:Option Bool :=
  some true
def F4 (p0:(List api_Span)) (p1:(List api_Span)) (k2:(Int→Option Bool)) (a0:Int):Option Bool :=
  bif (decide (a0<((p0.length:Nat):Int))) then ((Ad p0 a0).bind fun a1 =>
  (Ad p1 a0).bind fun a2 =>
  bif (!(((a1.Lo:Int)==a2.Lo)&&(((a1.Hi:Int)==a2.Hi)&&true))) then (some false) else ((ck (a0+1)).bind fun a3 =>
  k2 a3)) else (Lf)
def F5 (p0:(List api_Span)) (p1:(List api_Span)):Nat→Int→Option Bool
  | 0,_=>none
  | n+1,a0=>F4 p0 p1 (F5 p0 p1 n) a0
def Kq (F:Nat) (p0:(List api_Span)) (p1:(List api_Span)):Option Bool :=
  bif (((p0.length:Nat):Int) != ((p1.length:Nat):Int)) then (some false) else (F5 p0 p1 F 0)
def Ns (a0:(List (List api_Span))):Option ((List (List api_Span))×Int) :=
  some (a0,0)
def H0 (F:Nat) (p0:(List (List api_Span))) (k2:(Int→(List (List api_Span))→Option ((List (List api_Span))×Int))) (a0:Int) (a1:(List (List api_Span))):Option ((List (List api_Span))×Int) :=
  bif (decide (a0<((p0.length:Nat):Int))) then ((Ad p0 a0).bind fun a2 =>
  (Jo F a2 true).bind fun a3 =>
  bif (a3 != 0) then (some (([]:(List (List api_Span))),a3)) else ((C0 F a2).bind fun a6 =>
  (apd 24 a1 ([a6])).bind fun a4 =>
  (ck (a0+1)).bind fun a5 =>
  k2 a5 a4)) else (Ns a1)
def G7 (F:Nat) (p0:(List (List api_Span))):Nat→Int→(List (List api_Span))→Option ((List (List api_Span))×Int)
  | 0,_,_=>none
  | n+1,a1,a0=>H0 F p0 (G7 F p0 n) a1 a0
def Mc (F:Nat) (p0:(List (List api_Span))):Option ((List (List api_Span))×Int) :=
  bif (decide (((p0.length:Nat):Int)>200)) then (some (([]:(List (List api_Span))),9)) else (G7 F p0 F 0 ([]))
def Bk (p0:Int) (p1:Int):Int :=
  bif (bif (bif (bif (decide (p0<0)) then true else (decide (p0>400000))) then true else (decide (p1<1))) then true else (decide (p1>16))) then (3) else (0)
def Kh (a0:(List Int)):Option (List Int) :=
  some a0
def Hr (a1:Int) (k2:((List Int)→Int→Option (List Int))) (a0:(List Int)):Option (List Int) :=
  (ck (a1+1)).bind fun a2 =>
  k2 a0 a2
def Fi (p0:(List (List api_Span))) (k2:((List Int)→Int→Option (List Int))) (a1:(List Int)) (a0:Int):Option (List Int) :=
  bif (decide (a0<((p0.length:Nat):Int))) then ((Ad p0 a0).bind fun a3 =>
  bif (decide (((a3.length:Nat):Int)>0)) then ((apd 8 a1 ([a0])).bind fun a2 =>
  Hr a0 k2 a2) else (Hr a0 k2 a1)) else (Kh a1)
def Fj (p0:(List (List api_Span))):Nat→(List Int)→Int→Option (List Int)
  | 0,_,_=>none
  | n+1,a0,a1=>Fi p0 (Fj p0 n) a0 a1
def J8 (F:Nat) (p0:(List (List api_Span))):Option (List Int) :=
  Fj p0 F ([]) 0
def Dn (F:Nat) (a0:(List api_Span)):Option (List api_Span) :=
  (C0 F a0).bind fun a1 =>
  some a1
def Do (p0:(List api_Span)) (p1:(List api_Span)) (a0:Int) (a1:Int) (k2:((List api_Span)→Int→Int→Option (List api_Span))) (a2:(List api_Span)):Option (List api_Span) :=
  (Ad p0 a0).bind fun a3 =>
  (Ad p1 a1).bind fun a4 =>
  bif (decide (a3.Hi<a4.Hi)) then ((ck (a0+1)).bind fun a5 =>
  k2 a2 a5 a1) else ((ck (a1+1)).bind fun a6 =>
  k2 a2 a0 a6)
def Cj (F:Nat) (p0:(List api_Span)) (p1:(List api_Span)) (k2:((List api_Span)→Int→Int→Option (List api_Span))) (a2:(List api_Span)) (a0:Int) (a1:Int):Option (List api_Span) :=
  bif (bif (decide (a0<((p0.length:Nat):Int))) then (decide (a1<((p1.length:Nat):Int))) else false) then ((Ad p0 a0).bind fun a3 =>
  (Ad p1 a1).bind fun a4 =>
  bif ((Aa a3 a4).2) then ((apd 16 a2 ([(api_Span.mk (((Aa a3 a4).1).Lo) (((Aa a3 a4).1).Hi))])).bind fun a5 =>
  Do p0 p1 a0 a1 k2 a5) else (Do p0 p1 a0 a1 k2 a2)) else (Dn F a2)
def C3 (F:Nat) (p0:(List api_Span)) (p1:(List api_Span)):Nat→(List api_Span)→Int→Int→Option (List api_Span)
  | 0,_,_,_=>none
  | n+1,a0,a1,a2=>Cj F p0 p1 (C3 F p0 p1 n) a0 a1 a2
def G2 (F:Nat) (p0:(List api_Span)) (p1:(List api_Span)):Option (List api_Span) :=
  C3 F p0 p1 F ([]) 0 0
def Ej (F:Nat) (a0:(List api_Span)):Option (List api_Span) :=
  (C0 F a0).bind fun a1 =>
  some a1
def Ck (F:Nat) (p0:(List api_Span)) (p1:Int) (k2:(Int→(List api_Span)→Option (List api_Span))) (a0:Int) (a1:(List api_Span)):Option (List api_Span) :=
  bif (decide (a0<((p0.length:Nat):Int))) then ((Ad p0 a0).bind fun a2 =>
  (ck (a2.Lo-p1)).bind fun a4 =>
  (ck (a2.Hi+p1)).bind fun a5 =>
  (apd 16 a1 ([(api_Span.mk a4 a5)])).bind fun a3 =>
  (ck (a0+1)).bind fun a6 =>
  k2 a6 a3) else (Ej F a1)
def Cl (F:Nat) (p0:(List api_Span)) (p1:Int):Nat→Int→(List api_Span)→Option (List api_Span)
  | 0,_,_=>none
  | n+1,a1,a0=>Ck F p0 p1 (Cl F p0 p1 n) a1 a0
def G3 (F:Nat) (p0:(List api_Span)) (p1:Int):Option (List api_Span) :=
  Cl F p0 p1 F 0 ([])
def D4 (F:Nat) (p0:(List api_Span)) (p1:(List api_Span)) (p2:Int):Option (List api_Span) :=
  (G3 F p1 p2).bind fun y8 =>
  (G2 F p0 y8).bind fun a0 =>
  some a0
def K3 (F:Nat) (p0:Int) (p1:Int) (c0_:(List Int)) (c1_:Int) (c2_:(List (List api_Span))) (c3_:Int):Option (List (List api_Span)) :=
  (Ad c0_ p0).bind fun u8 =>
  (Ad c0_ p1).bind fun u9 =>
  (ck (u8-u9)).bind fun a0 =>
  (Ad c0_ p1).bind fun a4 =>
  (Ad c0_ p0).bind fun a5 =>
  (ck (a4-a5)).bind fun a1 =>
  bif (decide ((if a1>a0 then a1 else a0)≤c1_)) then ((Ad c0_ p1).bind fun a2 =>
  (Ad c0_ p1).bind fun a6 =>
  (Ad c2_ a6).bind fun a7 =>
  (Ad c0_ p0).bind fun a8 =>
  (Ad c2_ a8).bind fun a9 =>
  (ck (c3_*(if a1>a0 then a1 else a0))).bind fun aA =>
  (D4 F a7 a9 aA).bind fun aB =>
  (Ad c2_ a2).bind fun aC =>
  (D1 c2_ a2 aB).bind fun a3 =>
  some a3) else (some c2_)
def Mu (a0:(List (List api_Span))):Option (List (List api_Span)) :=
  some a0
def Ge (F:Nat) (p0:(List (List api_Span))) (k2:((List (List api_Span))→Int→Option (List (List api_Span)))) (a1:(List (List api_Span))) (a0:Int):Option (List (List api_Span)) :=
  bif (decide (a0<((p0.length:Nat):Int))) then ((Ad p0 a0).bind fun a3 =>
  (Aw F a3).bind fun a5 =>
  (apd 24 a1 ([a5])).bind fun a2 =>
  (ck (a0+1)).bind fun a4 =>
  k2 a2 a4) else (Mu a1)
def Fd (F:Nat) (p0:(List (List api_Span))):Nat→(List (List api_Span))→Int→Option (List (List api_Span))
  | 0,_,_=>none
  | n+1,a0,a1=>Ge F p0 (Fd F p0 n) a0 a1
def K5 (F:Nat) (p0:(List (List api_Span))):Option (List (List api_Span)) :=
  Fd F p0 F ([]) 0
def Jc (F:Nat) (a0:(List (List api_Span))):Option ((List (List api_Span))×Int) :=
  (K5 F a0).bind fun a1 =>
  some (a1,0)
def Fa (F:Nat) (p1:Int) (p2:Int) (a4:(List Int)) (k4:((List (List api_Span))→Int→Option ((List (List api_Span))×Int))) (a1:(List (List api_Span))) (a0:Int):Option ((List (List api_Span))×Int) :=
  bif (decide (a0>0)) then ((ck (a0-1)).bind fun a2 =>
  (K3 F a0 a2 a4 p2 a1 p1).bind fun a5 =>
  (ck (a0-1)).bind fun a3 =>
  k4 a5 a3) else (Jc F a1)
def Ds (F:Nat) (p1:Int) (p2:Int) (a0:(List Int)):Nat→(List (List api_Span))→Int→Option ((List (List api_Span))×Int)
  | 0,_,_=>none
  | n+1,a1,a2=>Fa F p1 p2 a0 (Ds F p1 p2 a0 n) a1 a2
def Jb (F:Nat) (p1:Int) (p2:Int) (a0:(List Int)) (a1:(List (List api_Span))):Option ((List (List api_Span))×Int) :=
  (ck (((a0.length:Nat):Int)-1)).bind fun a2 =>
  Ds F p1 p2 a0 F a1 a2
def Fb (F:Nat) (p1:Int) (p2:Int) (a1:(List Int)) (k5:((List (List api_Span))→Int→Option ((List (List api_Span))×Int))) (a2:(List (List api_Span))) (a0:Int):Option ((List (List api_Span))×Int) :=
  bif (decide (a0<((a1.length:Nat):Int))) then ((ck (a0-1)).bind fun a3 =>
  (K3 F a3 a0 a1 p2 a2 p1).bind fun a5 =>
  (ck (a0+1)).bind fun a4 =>
  k5 a5 a4) else (Jb F p1 p2 a1 a2)
def D3 (F:Nat) (p1:Int) (p2:Int) (a0:(List Int)):Nat→(List (List api_Span))→Int→Option ((List (List api_Span))×Int)
  | 0,_,_=>none
  | n+1,a1,a2=>Fb F p1 p2 a0 (D3 F p1 p2 a0 n) a1 a2
def Gz (F:Nat) (p1:Int) (p2:Int) (y8:((List (List api_Span))×Int)) (a0:Int):Option ((List (List api_Span))×Int) :=
  bif (a0 != 0) then (some (([]:(List (List api_Span))),a0)) else ((J8 F y8.1).bind fun a1 =>
  D3 F p1 p2 a1 F y8.1 1)
def Nq (F:Nat) (p0:(List (List api_Span))) (p1:Int) (p2:Int):Option ((List (List api_Span))×Int) :=
  (Mc F p0).bind fun y8 =>
  bif (y8.2==0) then (Gz F p1 p2 y8 (Bk p1 p2)) else (Gz F p1 p2 y8 y8.2)
def M2:Option Bool :=
  some true
def Fv (F:Nat) (p0:(List (List api_Span))) (p1:(List (List api_Span))) (k2:(Int→Option Bool)) (a0:Int):Option Bool :=
  bif (decide (a0<((p0.length:Nat):Int))) then ((Ad p0 a0).bind fun a2 =>
  (Ad p1 a0).bind fun a1 =>
  (Kq F a2 a1).bind fun a4 =>
  bif (!a4) then (some false) else ((ck (a0+1)).bind fun a3 =>
  k2 a3)) else (M2)
def Fx (F:Nat) (p0:(List (List api_Span))) (p1:(List (List api_Span))):Nat→Int→Option Bool
  | 0,_=>none
  | n+1,a0=>Fv F p0 p1 (Fx F p0 p1 n) a0
def K7 (F:Nat) (p0:(List (List api_Span))) (p1:(List (List api_Span))):Option Bool :=
  bif (((p0.length:Nat):Int) != ((p1.length:Nat):Int)) then (some false) else (Fx F p0 p1 F 0)
def Dm (F:Nat) (p0:fold_web) (p1:fold_place) (p2:fold_place) (p3:Int):Option fold_web :=
  (apd 24 ((lkM p0.bonds p1).getD []) ([(fold_bond.mk p2 p3)])).bind fun a0 =>
  (apd 24 ((lkM (upM p0.bonds p1 a0) p2).getD []) ([(fold_bond.mk p1 p3)])).bind fun a1 =>
  some (fold_web.mk p0.sets (upM (upM p0.bonds p1 a0) p2 a1))
def Bh (F:Nat) (p0:(List (List api_Span))):Option (List (List api_Span)) :=
  (apd 24 ([]:List (List api_Span)) p0).bind fun l7 =>
  some l7
def M0 (a0:(List (List (List api_Span)))) (a1:(List (fold_place×(List fold_bond)))):Option fold_web :=
  some (fold_web.mk a0 a1)
def Ki (a2:Int) (k2:((List (List (List api_Span)))→(List (fold_place×(List fold_bond)))→Int→Option fold_web)) (a0:(List (List (List api_Span)))) (a1:(List (fold_place×(List fold_bond)))):Option fold_web :=
  (ck (a2+1)).bind fun a3 =>
  k2 a0 a1 a3
def Et (F:Nat) (a4:Int) (k2:((List (List (List api_Span)))→(List (fold_place×(List fold_bond)))→Int→Option fold_web)) (a3:(List (List api_Span))) (a0:(List (List (List api_Span)))) (a1:(List (fold_place×(List fold_bond)))):Option fold_web :=
  (Bh F a3).bind fun a5 =>
  (apd 24 a0 ([a5])).bind fun a2 =>
  Ki a4 k2 a2 a1
def Fp (a2:Int) (k5:((List (List (List api_Span)))→(List (fold_place×(List fold_bond)))→Int→Option fold_web)) (a0:(List (List (List api_Span)))) (a1:(List (fold_place×(List fold_bond)))):Option fold_web :=
  (ck (a2+1)).bind fun a3 =>
  k5 a0 a1 a3
def Fo (F:Nat) (p0:(List (List (List api_Span)))) (p1:Int) (p2:Int) (a4:Int) (a5:Int) (k5:((List (List (List api_Span)))→(List (fold_place×(List fold_bond)))→Int→Option fold_web)) (a1:Int) (a2:(List (List (List api_Span)))) (a3:(List (fold_place×(List fold_bond)))) (k8:(Int→Option fold_web)) (a0:Int):Option fold_web :=
  (ck (((p0.length:Nat):Int)-1)).bind fun a6 =>
  bif (decide (a0≤(if a6<p2 then a6 else p2))) then ((ck (a4+a0)).bind fun aB =>
  (N8 aB ((p0.length:Nat):Int)).bind fun a7 =>
  (Ad p0 a7).bind fun a9 =>
  (Ad a9 a1).bind fun aA =>
  bif (decide (((aA.length:Nat):Int)>0)) then ((ck (p1*a0)).bind fun aC =>
  (Dm F (fold_web.mk a2 a3) (fold_place.mk a4 a1) (fold_place.mk a7 a1) aC).bind fun a8 =>
  Fp a5 k5 a8.sets a8.bonds) else ((ck (a0+1)).bind fun aD =>
  k8 aD)) else (Fp a5 k5 a2 a3)
def Eu (F:Nat) (p0:(List (List (List api_Span)))) (p1:Int) (p2:Int) (a3:Int) (a4:Int) (k5:((List (List (List api_Span)))→(List (fold_place×(List fold_bond)))→Int→Option fold_web)) (a2:Int) (a0:(List (List (List api_Span)))) (a1:(List (fold_place×(List fold_bond)))):Nat→Int→Option fold_web
  | 0,_=>none
  | n+1,a5=>Fo F p0 p1 p2 a3 a4 k5 a2 a0 a1 (Eu F p0 p1 p2 a3 a4 k5 a2 a0 a1 n) a5
def Gl (F:Nat) (p0:(List (List (List api_Span)))) (p1:Int) (p2:Int) (a3:Int) (a4:Int) (k5:((List (List (List api_Span)))→(List (fold_place×(List fold_bond)))→Int→Option fold_web)) (a2:Int) (a0:(List (List (List api_Span)))) (a1:(List (fold_place×(List fold_bond)))):Option fold_web :=
  Eu F p0 p1 p2 a3 a4 k5 a2 a0 a1 F 1
def Fl (F:Nat) (p0:(List (List (List api_Span)))) (p1:Int) (p2:Int) (a2:Int) (k2:((List (List (List api_Span)))→(List (fold_place×(List fold_bond)))→Int→Option fold_web)) (a7:(List (List api_Span))) (a3:(List Int)) (k5:((List (List (List api_Span)))→(List (fold_place×(List fold_bond)))→Int→Option fold_web)) (a4:(List (List (List api_Span)))) (a5:(List (fold_place×(List fold_bond)))) (a0:Int):Option fold_web :=
  bif (decide (a0<((a3.length:Nat):Int))) then ((Ad a3 a0).bind fun a1 =>
  (gd (((decide (a0>0))==true&&true)) (ck (a0-1)) 0).bind fun aB =>
  (gd (((decide (a0>0))==true&&true)) (Ad a3 aB) default).bind fun a8 =>
  (gd (((decide (a0>0))==true&&true)) (ck (a1-a8)) 0).bind fun aC =>
  bif (bif (decide (a0>0)) then (decide (aC≤p2)) else false) then ((ck (a0-1)).bind fun aD =>
  (Ad a3 aD).bind fun a9 =>
  (ck (a0-1)).bind fun aE =>
  (Ad a3 aE).bind fun aA =>
  (ck (a1-aA)).bind fun aF =>
  (ck (p1*aF)).bind fun aG =>
  (Dm F (fold_web.mk a4 a5) (fold_place.mk a2 a9) (fold_place.mk a2 a1) aG).bind fun a6 =>
  Gl F p0 p1 p2 a2 a0 k5 a1 a6.sets a6.bonds) else (Gl F p0 p1 p2 a2 a0 k5 a1 a4 a5)) else (Et F a2 k2 a7 a4 a5)
def Dd (F:Nat) (p0:(List (List (List api_Span)))) (p1:Int) (p2:Int) (a1:Int) (k2:((List (List (List api_Span)))→(List (fold_place×(List fold_bond)))→Int→Option fold_web)) (a0:(List (List api_Span))) (a2:(List Int)):Nat→(List (List (List api_Span)))→(List (fold_place×(List fold_bond)))→Int→Option fold_web
  | 0,_,_,_=>none
  | n+1,a3,a4,a5=>Fl F p0 p1 p2 a1 k2 a0 a2 (Dd F p0 p1 p2 a1 k2 a0 a2 n) a3 a4 a5
def Fk (F:Nat) (p0:(List (List (List api_Span)))) (p1:Int) (p2:Int) (k2:((List (List (List api_Span)))→(List (fold_place×(List fold_bond)))→Int→Option fold_web)) (a1:(List (List (List api_Span)))) (a2:(List (fold_place×(List fold_bond)))) (a0:Int):Option fold_web :=
  bif (decide (a0<((p0.length:Nat):Int))) then ((Ad p0 a0).bind fun a3 =>
  (J8 F a3).bind fun a4 =>
  Dd F p0 p1 p2 a0 k2 a3 a4 F a1 a2 0) else (M0 a1 a2)
def E0 (F:Nat) (p0:(List (List (List api_Span)))) (p1:Int) (p2:Int):Nat→(List (List (List api_Span)))→(List (fold_place×(List fold_bond)))→Int→Option fold_web
  | 0,_,_,_=>none
  | n+1,a0,a1,a2=>Fk F p0 p1 p2 (E0 F p0 p1 p2 n) a0 a1 a2
def Mv (F:Nat) (p0:(List (List (List api_Span)))) (p1:Int) (p2:Int):Option fold_web :=
  E0 F p0 p1 p2 F ([]) ([]:List (fold_place×(List fold_bond))) 0
def Dc (F:Nat) (p0:fold_place) (c0_:(List (fold_place×Bool))) (c1_:(List fold_place)):Option ((List (fold_place×Bool))×(List fold_place)) :=
  bif (!((lkM c0_ p0).getD false)) then ((apd 16 c1_ ([p0])).bind fun l6 =>
  some ((upM c0_ p0 true),l6)) else (some (c0_,c1_))
def Cq:Option Bool :=
  some true
def Ap (p0:(List api_Span)) (p1:(List api_Span)) (k2:(Int→Option Bool)) (a0:Int):Option Bool :=
  bif (decide (a0<((p0.length:Nat):Int))) then ((Ad p0 a0).bind fun a1 =>
  (Ad p1 a0).bind fun a2 =>
  bif (!(((a1.Lo:Int)==a2.Lo)&&(((a1.Hi:Int)==a2.Hi)&&true))) then (some false) else ((ck (a0+1)).bind fun a3 =>
  k2 a3)) else (Cq)
def Aq (p0:(List api_Span)) (p1:(List api_Span)):Nat→Int→Option Bool
  | 0,_=>none
  | n+1,a0=>Ap p0 p1 (Aq p0 p1 n) a0
def Bc (F:Nat) (p0:(List api_Span)) (p1:(List api_Span)):Option Bool :=
  bif (((p0.length:Nat):Int) != ((p1.length:Nat):Int)) then (some false) else (Aq p0 p1 F 0)
def Ld (a1:(List fold_place)) (a0:(List (List (List api_Span)))) (a2:(List (fold_place×Bool))):Option (List (List (List api_Span))) :=
  some a0
def E5 (a3:Int) (k4:((List fold_place)→(List (List (List api_Span)))→(List (fold_place×Bool))→Int→Option (List (List (List api_Span))))) (a0:(List fold_place)) (a1:(List (List (List api_Span)))) (a2:(List (fold_place×Bool))):Option (List (List (List api_Span))) :=
  (ck (a3+1)).bind fun a4 =>
  k4 a0 a1 a2 a4
def E4 (F:Nat) (y5:fold_web) (k3:((List fold_place)→(List (List (List api_Span)))→(List (fold_place×Bool))→Option (List (List (List api_Span))))) (a2:fold_place) (k4:((List fold_place)→(List (List (List api_Span)))→(List (fold_place×Bool))→Int→Option (List (List (List api_Span))))) (a4:(List fold_place)) (a1:(List (List (List api_Span)))) (a5:(List (fold_place×Bool))) (a3:Int):Option (List (List (List api_Span))) :=
  bif (decide (a3<((((lkM y5.bonds a2).getD []).length:Nat):Int))) then ((Ad ((lkM y5.bonds a2).getD []) a3).bind fun a0 =>
  (Ad a1 a0.to.ray).bind fun aC =>
  (Ad aC a0.to.gate).bind fun a6 =>
  (Ad a1 a2.ray).bind fun aD =>
  (Ad aD a2.gate).bind fun aE =>
  (D4 F a6 aE a0.most).bind fun a8 =>
  (Bc F a6 a8).bind fun aF =>
  bif (!aF) then ((Ad a1 a0.to.ray).bind fun a7 =>
  (Ad a7 a0.to.gate).bind fun aG =>
  (D1 a7 a0.to.gate a8).bind fun aA =>
  (D1 a1 a0.to.ray aA).bind fun aB =>
  (Dc F a0.to a5 a4).bind fun a9 =>
  E5 a3 k4 a9.2 aB a9.1) else (E5 a3 k4 a4 a1 a5)) else (k3 a4 a1 a5)
def Bv (F:Nat) (y5:fold_web) (k3:((List fold_place)→(List (List (List api_Span)))→(List (fold_place×Bool))→Option (List (List (List api_Span))))) (a0:fold_place):Nat→(List fold_place)→(List (List (List api_Span)))→(List (fold_place×Bool))→Int→Option (List (List (List api_Span)))
  | 0,_,_,_,_=>none
  | n+1,a1,a2,a3,a4=>E4 F y5 k3 a0 (Bv F y5 k3 a0 n) a1 a2 a3 a4
def E3 (F:Nat) (y5:fold_web) (k3:((List fold_place)→(List (List (List api_Span)))→(List (fold_place×Bool))→Option (List (List (List api_Span))))) (a0:(List fold_place)) (a1:(List (List (List api_Span)))) (a2:(List (fold_place×Bool))):Option (List (List (List api_Span))) :=
  bif (decide (((a0.length:Nat):Int)>0)) then ((Ad a0 0).bind fun a3 =>
  (Ly a0 1 ((a0.length:Nat):Int)).bind fun a4 =>
  Bv F y5 k3 a3 F a4 a1 (Lr a2 a3) 0) else (Ld a0 a1 a2)
def Df (F:Nat) (y5:fold_web):Nat→(List fold_place)→(List (List (List api_Span)))→(List (fold_place×Bool))→Option (List (List (List api_Span)))
  | 0,_,_,_=>none
  | n+1,a0,a1,a2=>E3 F y5 (Df F y5 n) a0 a1 a2
def H1 (F:Nat) (y5:fold_web) (a0:(List fold_place)) (a1:(List (fold_place×Bool))):Option (List (List (List api_Span))) :=
  Df F y5 F a0 y5.sets a1
def H3 (a2:Int) (k6:((List fold_place)→(List (fold_place×Bool))→Int→Option (List (List (List api_Span))))) (a0:(List fold_place)) (a1:(List (fold_place×Bool))):Option (List (List (List api_Span))) :=
  (ck (a2+1)).bind fun a3 =>
  k6 a0 a1 a3
def F3 (F:Nat) (a3:Int) (k6:((List fold_place)→(List (fold_place×Bool))→Int→Option (List (List (List api_Span))))) (a4:(List Int)) (k8:((List fold_place)→(List (fold_place×Bool))→Int→Option (List (List (List api_Span))))) (a1:(List fold_place)) (a2:(List (fold_place×Bool))) (a0:Int):Option (List (List (List api_Span))) :=
  bif (decide (a0<((a4.length:Nat):Int))) then ((Ad a4 a0).bind fun a6 =>
  (Dc F (fold_place.mk a3 a6) a2 a1).bind fun a5 =>
  (ck (a0+1)).bind fun a7 =>
  k8 a5.2 a5.1 a7) else (H3 a3 k6 a1 a2)
def Dh (F:Nat) (a0:Int) (k6:((List fold_place)→(List (fold_place×Bool))→Int→Option (List (List (List api_Span))))) (a1:(List Int)):Nat→(List fold_place)→(List (fold_place×Bool))→Int→Option (List (List (List api_Span)))
  | 0,_,_,_=>none
  | n+1,a2,a3,a4=>F3 F a0 k6 a1 (Dh F a0 k6 a1 n) a2 a3 a4
def F2 (F:Nat) (p0:(List (List (List api_Span)))) (y5:fold_web) (k6:((List fold_place)→(List (fold_place×Bool))→Int→Option (List (List (List api_Span))))) (a1:(List fold_place)) (a2:(List (fold_place×Bool))) (a0:Int):Option (List (List (List api_Span))) :=
  bif (decide (a0<((p0.length:Nat):Int))) then ((Ad p0 a0).bind fun a3 =>
  (J8 F a3).bind fun a4 =>
  Dh F a0 k6 a4 F a1 a2 0) else (H1 F y5 a1 a2)
def Dg (F:Nat) (p0:(List (List (List api_Span)))) (y5:fold_web):Nat→(List fold_place)→(List (fold_place×Bool))→Int→Option (List (List (List api_Span)))
  | 0,_,_,_=>none
  | n+1,a0,a1,a2=>F2 F p0 y5 (Dg F p0 y5 n) a0 a1 a2
def Kp (F:Nat) (p0:(List (List (List api_Span)))) (p1:Int) (p2:Int):Option (List (List (List api_Span))) :=
  (Mv F p0 p1 p2).bind fun y5 =>
  Dg F p0 y5 F ([]) ([]:List (fold_place×Bool)) 0
def Ms (a0:(List (List (List api_Span)))):Option ((List (List (List api_Span)))×Int) :=
  some (a0,0)
def G9 (F:Nat) (a2:(List (List (List api_Span)))) (k4:((List (List (List api_Span)))→Int→Option ((List (List (List api_Span)))×Int))) (a1:(List (List (List api_Span)))) (a0:Int):Option ((List (List (List api_Span)))×Int) :=
  bif (decide (a0<((a2.length:Nat):Int))) then ((Ad a2 a0).bind fun a4 =>
  (K5 F a4).bind fun a6 =>
  (apd 24 a1 ([a6])).bind fun a3 =>
  (ck (a0+1)).bind fun a5 =>
  k4 a3 a5) else (Ms a1)
def Gc (F:Nat) (a0:(List (List (List api_Span)))):Nat→(List (List (List api_Span)))→Int→Option ((List (List (List api_Span)))×Int)
  | 0,_,_=>none
  | n+1,a1,a2=>G9 F a0 (Gc F a0 n) a1 a2
def Jn (F:Nat) (p1:Int) (p2:Int) (a0:(List (List (List api_Span)))):Option ((List (List (List api_Span)))×Int) :=
  bif ((Bk p1 p2) != 0) then (some (([]:(List (List (List api_Span)))),(Bk p1 p2))) else ((Kp F a0 p1 p2).bind fun a1 =>
  Gc F a1 F ([]) 0)
def Ga (F:Nat) (p0:(List (List (List api_Span)))) (p1:Int) (p2:Int) (k5:((List (List (List api_Span)))→Int→Option ((List (List (List api_Span)))×Int))) (a2:(List (List (List api_Span)))) (a0:Int):Option ((List (List (List api_Span)))×Int) :=
  bif (decide (a0<((p0.length:Nat):Int))) then ((Ad p0 a0).bind fun a4 =>
  (Mc F a4).bind fun a1 =>
  bif (a1.2 != 0) then (some (([]:(List (List (List api_Span)))),a1.2)) else ((apd 24 a2 ([a1.1])).bind fun a3 =>
  (ck (a0+1)).bind fun a5 =>
  k5 a3 a5)) else (Jn F p1 p2 a2)
def Fc (F:Nat) (p0:(List (List (List api_Span)))) (p1:Int) (p2:Int):Nat→(List (List (List api_Span)))→Int→Option ((List (List (List api_Span)))×Int)
  | 0,_,_=>none
  | n+1,a0,a1=>Ga F p0 p1 p2 (Fc F p0 p1 p2 n) a0 a1
def Jm (F:Nat) (p0:(List (List (List api_Span)))) (p1:Int) (p2:Int):Option ((List (List (List api_Span)))×Int) :=
  Fc F p0 p1 p2 F ([]) 0
def Gb (F:Nat) (p0:(List (List (List api_Span)))) (p1:Int) (p2:Int) (k6:(Int→Option ((List (List (List api_Span)))×Int))) (a0:Int):Option ((List (List (List api_Span)))×Int) :=
  bif (decide (a0<((p0.length:Nat):Int))) then ((Ad p0 a0).bind fun a1 =>
  (Ad p0 0).bind fun a2 =>
  bif (((a1.length:Nat):Int) != ((a2.length:Nat):Int)) then (some (([]:(List (List (List api_Span)))),11)) else ((ck (a0+1)).bind fun a3 =>
  k6 a3)) else (Jm F p0 p1 p2)
def Gd (F:Nat) (p0:(List (List (List api_Span)))) (p1:Int) (p2:Int):Nat→Int→Option ((List (List (List api_Span)))×Int)
  | 0,_=>none
  | n+1,a0=>Gb F p0 p1 p2 (Gd F p0 p1 p2 n) a0
def K4 (F:Nat) (p0:(List (List (List api_Span)))) (p1:Int) (p2:Int):Option ((List (List (List api_Span)))×Int) :=
  bif (decide (((p0.length:Nat):Int)>360)) then (some (([]:(List (List (List api_Span)))),9)) else (Gd F p0 p1 p2 F 0)
def D0 (p0:Int) (p1:Int):api_Span :=
  (api_Span.mk p0 p1)
def Kw (a0:(List api_Span)):Option (List api_Span) :=
  some a0
def Nh (a0:(List api_Span)) (k2:((List api_Span)→(List api_Span)→Option (List api_Span))) (a3:Int) (a4:Int) (a1:(List api_Span)):Option (List api_Span) :=
  (apd 16 a0 ([(api_Span.mk a3 a4)])).bind fun a2 =>
  k2 a2 a1
def Kz (a1:Int) (k6:(Int→(List api_Span)→Option (List api_Span))) (a0:(List api_Span)):Option (List api_Span) :=
  (ck (a1+1)).bind fun a2 =>
  k6 a2 a0
def Gj (a4:(List api_Span)) (a1:(List api_Span)) (k2:((List api_Span)→(List api_Span)→Option (List api_Span))) (a8:Int) (a3:Int) (k6:(Int→(List api_Span)→Option (List api_Span))) (a0:Int) (a2:(List api_Span)):Option (List api_Span) :=
  bif (decide (a0<((a1.length:Nat):Int))) then ((Ad a1 a0).bind fun a6 =>
  bif (decide (a6.Lo>a3)) then ((Ad a1 a0).bind fun a7 =>
  (apd 16 a2 ([a7])).bind fun a5 =>
  Kz a0 k6 a5) else (Kz a0 k6 a2)) else (Nh a4 k2 a8 a3 a2)
def Eh (a0:(List api_Span)) (a1:(List api_Span)) (k2:((List api_Span)→(List api_Span)→Option (List api_Span))) (a2:Int) (a3:Int):Nat→Int→(List api_Span)→Option (List api_Span)
  | 0,_,_=>none
  | n+1,a5,a4=>Gj a0 a1 k2 a2 a3 (Eh a0 a1 k2 a2 a3 n) a5 a4
def Ky (F:Nat) (a0:(List api_Span)) (a1:(List api_Span)) (k2:((List api_Span)→(List api_Span)→Option (List api_Span))) (a2:Int) (a3:Int):Option (List api_Span) :=
  Eh a0 a1 k2 a2 a3 F 0 ([])
def Kc (a1:Int) (k9:(Int→Bool→Int→Option (List api_Span))) (a2:Int) (a0:Bool):Option (List api_Span) :=
  (ck (a1+1)).bind fun a3 =>
  k9 a2 a0 a3
def Gk (a2:(List api_Span)) (k8:(Int→Bool→Option (List api_Span))) (k9:(Int→Bool→Int→Option (List api_Span))) (a1:Int) (a3:Bool) (a0:Int):Option (List api_Span) :=
  bif (decide (a0<((a2.length:Nat):Int))) then ((Ad a2 a0).bind fun a4 =>
  (gd (((decide (a4.Lo≤a1))==true&&true)) (Ad a2 a0) default).bind fun a5 =>
  bif (bif (decide (a4.Lo≤a1)) then (decide (a5.Hi>a1)) else false) then ((Ad a2 a0).bind fun a6 =>
  Kc a0 k9 a6.Hi true) else (Kc a0 k9 a1 a3)) else (k8 a1 a3)
def Ei (a0:(List api_Span)) (k8:(Int→Bool→Option (List api_Span))):Nat→Int→Bool→Int→Option (List api_Span)
  | 0,_,_,_=>none
  | n+1,a2,a1,a3=>Gk a0 k8 (Ei a0 k8 n) a2 a1 a3
def Eg (F:Nat) (a3:(List api_Span)) (a0:(List api_Span)) (k2:((List api_Span)→(List api_Span)→Option (List api_Span))) (a4:Int) (k8:(Int→Bool→Option (List api_Span))) (a1:Int) (a2:Bool):Option (List api_Span) :=
  bif a2 then (Ei a0 k8 F a1 false 0) else (Ky F a3 a0 k2 a4 a1)
def Dw (F:Nat) (a0:(List api_Span)) (a1:(List api_Span)) (k2:((List api_Span)→(List api_Span)→Option (List api_Span))) (a2:Int):Nat→Int→Bool→Option (List api_Span)
  | 0,_,_=>none
  | n+1,a4,a3=>Eg F a0 a1 k2 a2 (Dw F a0 a1 k2 a2 n) a4 a3
def Kx (F:Nat) (a0:(List api_Span)) (a1:(List api_Span)) (k2:((List api_Span)→(List api_Span)→Option (List api_Span))) (a2:Int) (a3:Int):Option (List api_Span) :=
  Dw F a0 a1 k2 a2 F a3 true
def Hf (a1:Int) (a0:(Int→Int→Int→Option (List api_Span))) (a2:Int) (a3:Int):Option (List api_Span) :=
  (ck (a1+1)).bind fun a4 =>
  a0 a2 a3 a4
def Dy (F:Nat) (a6:(List api_Span)) (a1:(List api_Span)) (k2:((List api_Span)→(List api_Span)→Option (List api_Span))) (a3:(Int→Int→Int→Option (List api_Span))) (a2:Int) (a5:Int) (a0:Int):Option (List api_Span) :=
  bif (decide (a0<((a1.length:Nat):Int))) then ((Ad a1 a0).bind fun a7 =>
  bif (decide (a7.Lo<a2)) then ((Ad a1 a0).bind fun a4 =>
  Hf a0 a3 a4.Lo a4.Hi) else (Hf a0 a3 a2 a5)) else (Kx F a6 a1 k2 a2 a5)
def D9 (F:Nat) (a0:(List api_Span)) (a1:(List api_Span)) (k2:((List api_Span)→(List api_Span)→Option (List api_Span))):Nat→Int→Int→Int→Option (List api_Span)
  | 0,_,_,_=>none
  | n+1,a2,a3,a4=>Dy F a0 a1 k2 (D9 F a0 a1 k2 n) a2 a3 a4
def Gi (F:Nat) (k2:((List api_Span)→(List api_Span)→Option (List api_Span))) (a1:(List api_Span)) (a0:(List api_Span)):Option (List api_Span) :=
  bif (decide (((a0.length:Nat):Int)>0)) then ((Ad a0 0).bind fun a2 =>
  D9 F a1 a0 k2 F a2.Lo a2.Hi 0) else (Kw a1)
def Dv (F:Nat):Nat→(List api_Span)→(List api_Span)→Option (List api_Span)
  | 0,_,_=>none
  | n+1,a0,a1=>Gi F (Dv F n) a0 a1
def Fh (F:Nat) (p0:(List api_Span)):Option (List api_Span) :=
  (apd 16 ([]:List api_Span) p0).bind fun l5 =>
  Dv F F ([]) l5
def Pz:Option Int :=
  some (-1)
def Cu (p0:(List (List api_Span))) (p1:Int) (p2:Int) (k2:(Int→Option Int)) (a0:Int):Option Int :=
  (gd (((decide (a0<((p0.length:Nat):Int)))==true&&true)) (ck (a0-p1)) 0).bind fun a4 =>
  bif (bif (decide (a0<((p0.length:Nat):Int))) then (decide (a4≤p2)) else false) then ((Ad p0 p1).bind fun a1 =>
  bif (decide (((a1.length:Nat):Int)>0)) then ((Ad p0 a0).bind fun a2 =>
  bif (decide (((a2.length:Nat):Int)>0)) then (some a0) else ((ck (a0+1)).bind fun a3 =>
  k2 a3)) else (Pz)) else (Pz)
def Ez (p0:(List (List api_Span))) (p1:Int) (p2:Int):Nat→Int→Option Int
  | 0,_=>none
  | n+1,a0=>Cu p0 p1 p2 (Ez p0 p1 p2 n) a0
def N4 (F:Nat) (p0:(List (List api_Span))) (p1:Int) (p2:Int):Option Int :=
  (ck (p1+1)).bind fun a0 =>
  Ez p0 p1 p2 F a0
def M3 (F:Nat) (a0:(List api_Span)):Option (List api_Span) :=
  (Fh F a0).bind fun a1 =>
  some a1
def M4 (a1:Int) (k2:((List api_Span)→Int→Option (List api_Span))) (a0:(List api_Span)):Option (List api_Span) :=
  (ck (a1+1)).bind fun a2 =>
  k2 a0 a2
def M5 (a1:Int) (k4:((List api_Span)→Int→Option (List api_Span))) (a0:(List api_Span)):Option (List api_Span) :=
  (ck (a1+1)).bind fun a2 =>
  k4 a0 a2
def J3 (p0:(List api_Span)) (p1:(List api_Span)) (a4:Int) (k2:((List api_Span)→Int→Option (List api_Span))) (k4:((List api_Span)→Int→Option (List api_Span))) (a1:(List api_Span)) (a0:Int):Option (List api_Span) :=
  bif (decide (a0<((p1.length:Nat):Int))) then ((Ad p0 a4).bind fun a2 =>
  (Ad p1 a0).bind fun a3 =>
  bif ((L7 a2 a3).2) then ((apd 16 a1 ([(api_Span.mk (((L7 a2 a3).1).Lo) (((L7 a2 a3).1).Hi))])).bind fun a5 =>
  M5 a0 k4 a5) else (M5 a0 k4 a1)) else (M4 a4 k2 a1)
def Fz (p0:(List api_Span)) (p1:(List api_Span)) (a0:Int) (k2:((List api_Span)→Int→Option (List api_Span))):Nat→(List api_Span)→Int→Option (List api_Span)
  | 0,_,_=>none
  | n+1,a1,a2=>J3 p0 p1 a0 k2 (Fz p0 p1 a0 k2 n) a1 a2
def J2 (F:Nat) (p0:(List api_Span)) (p1:(List api_Span)) (k2:((List api_Span)→Int→Option (List api_Span))) (a0:(List api_Span)) (a1:Int):Option (List api_Span) :=
  bif (decide (a1<((p0.length:Nat):Int))) then (Fz p0 p1 a1 k2 F a0 0) else (M3 F a0)
def Gp (F:Nat) (p0:(List api_Span)) (p1:(List api_Span)):Nat→(List api_Span)→Int→Option (List api_Span)
  | 0,_,_=>none
  | n+1,a0,a1=>J2 F p0 p1 (Gp F p0 p1 n) a0 a1
def Kb (F:Nat) (p0:(List api_Span)) (p1:(List api_Span)):Option (List api_Span) :=
  Gp F p0 p1 F ([]) 0
def M6 (F:Nat) (a0:(List api_Span)):Option (List api_Span) :=
  (Fh F a0).bind fun a1 =>
  some a1
def J4 (F:Nat) (p0:(List api_Span)) (p1:Int) (k2:((List api_Span)→Int→Option (List api_Span))) (a1:(List api_Span)) (a0:Int):Option (List api_Span) :=
  bif (decide (a0<((p0.length:Nat):Int))) then ((Ad p0 a0).bind fun a3 =>
  (ck (a3.Lo-p1)).bind fun a6 =>
  (Ad p0 a0).bind fun a4 =>
  (ck (a4.Hi+p1)).bind fun a7 =>
  (apd 16 a1 ([(api_Span.mk a6 a7)])).bind fun a2 =>
  (ck (a0+1)).bind fun a5 =>
  k2 a2 a5) else (M6 F a1)
def J5 (F:Nat) (p0:(List api_Span)) (p1:Int):Nat→(List api_Span)→Int→Option (List api_Span)
  | 0,_,_=>none
  | n+1,a0,a1=>J4 F p0 p1 (J5 F p0 p1 n) a0 a1
def Lk (F:Nat) (p0:(List api_Span)) (p1:Int):Option (List api_Span) :=
  J5 F p0 p1 F ([]) 0
def Xc (a0:(List (List api_Span))):Option ((List (List api_Span))×Int) :=
  some (a0,0)
def Jq (F:Nat) (p0:(List (List api_Span))) (a2:(List (List api_Span))) (a3:(List (List api_Span))) (k6:((List (List api_Span))→Int→Option ((List (List api_Span))×Int))) (a1:(List (List api_Span))) (a0:Int):Option ((List (List api_Span))×Int) :=
  bif (decide (a0<((p0.length:Nat):Int))) then ((Ad a2 a0).bind fun a5 =>
  (Ad a3 a0).bind fun a6 =>
  (Kb F a5 a6).bind fun a8 =>
  (apd 24 a1 ([a8])).bind fun a4 =>
  (ck (a0+1)).bind fun a7 =>
  k6 a4 a7) else (Xc a1)
def Jt (F:Nat) (p0:(List (List api_Span))) (a0:(List (List api_Span))) (a1:(List (List api_Span))):Nat→(List (List api_Span))→Int→Option ((List (List api_Span))×Int)
  | 0,_,_=>none
  | n+1,a2,a3=>Jq F p0 a0 a1 (Jt F p0 a0 a1 n) a2 a3
def N7 (F:Nat) (p0:(List (List api_Span))) (a0:(List (List api_Span))) (a1:(List (List api_Span))):Option ((List (List api_Span))×Int) :=
  Jt F p0 a0 a1 F ([]) 0
def L6 (a1:Int) (k7:((List (List api_Span))→Int→Option ((List (List api_Span))×Int))) (a0:(List (List api_Span))):Option ((List (List api_Span))×Int) :=
  (ck (a1-1)).bind fun a2 =>
  k7 a0 a2
def Jr (F:Nat) (p0:(List (List api_Span))) (p1:Int) (p2:Int) (a3:(List (List api_Span))) (k7:((List (List api_Span))→Int→Option ((List (List api_Span))×Int))) (a1:(List (List api_Span))) (a0:Int):Option ((List (List api_Span))×Int) :=
  bif (decide (a0≥0)) then ((N4 F p0 a0 p2).bind fun a2 =>
  bif (decide (a2≥0)) then ((Ad p0 a0).bind fun a5 =>
  (Ad a1 a2).bind fun a6 =>
  (ck (a2-a0)).bind fun a7 =>
  (ck (p1*a7)).bind fun a8 =>
  (Lk F a6 a8).bind fun a9 =>
  (Kb F a5 a9).bind fun aA =>
  (Ad a1 a0).bind fun aB =>
  (D1 a1 a0 aA).bind fun a4 =>
  L6 a0 k7 a4) else (L6 a0 k7 a1)) else (N7 F p0 a3 a1)
def Hc (F:Nat) (p0:(List (List api_Span))) (p1:Int) (p2:Int) (a0:(List (List api_Span))):Nat→(List (List api_Span))→Int→Option ((List (List api_Span))×Int)
  | 0,_,_=>none
  | n+1,a1,a2=>Jr F p0 p1 p2 a0 (Hc F p0 p1 p2 a0 n) a1 a2
def N6 (F:Nat) (p0:(List (List api_Span))) (p1:Int) (p2:Int) (a1:(List (List api_Span))) (a0:(List (List api_Span))):Option ((List (List api_Span))×Int) :=
  (ck (((p0.length:Nat):Int)-1)).bind fun a2 =>
  Hc F p0 p1 p2 a0 F a1 a2
def Kl (a1:Int) (k9:(Int→(List (List api_Span))→Option ((List (List api_Span))×Int))) (a0:(List (List api_Span))):Option ((List (List api_Span))×Int) :=
  (ck (a1+1)).bind fun a2 =>
  k9 a2 a0
def Js (F:Nat) (p0:(List (List api_Span))) (p1:Int) (p2:Int) (a4:(List (List api_Span))) (k9:(Int→(List (List api_Span))→Option ((List (List api_Span))×Int))) (a0:Int) (a1:(List (List api_Span))):Option ((List (List api_Span))×Int) :=
  bif (decide (a0<((p0.length:Nat):Int))) then ((N4 F p0 a0 p2).bind fun a2 =>
  bif (decide (a2≥0)) then ((Ad p0 a2).bind fun a5 =>
  (Ad a1 a0).bind fun a6 =>
  (ck (a2-a0)).bind fun a7 =>
  (ck (p1*a7)).bind fun a8 =>
  (Lk F a6 a8).bind fun a9 =>
  (Kb F a5 a9).bind fun aA =>
  (Ad a1 a2).bind fun aB =>
  (D1 a1 a2 aA).bind fun a3 =>
  Kl a0 k9 a3) else (Kl a0 k9 a1)) else (N6 F p0 p1 p2 a4 a1)
def He (F:Nat) (p0:(List (List api_Span))) (p1:Int) (p2:Int) (a0:(List (List api_Span))):Nat→Int→(List (List api_Span))→Option ((List (List api_Span))×Int)
  | 0,_,_=>none
  | n+1,a2,a1=>Js F p0 p1 p2 a0 (He F p0 p1 p2 a0 n) a2 a1
def N5 (F:Nat) (p0:(List (List api_Span))) (p1:Int) (p2:Int) (a0:(List (List api_Span))) (a1:(List (List api_Span))):Option ((List (List api_Span))×Int) :=
  He F p0 p1 p2 a0 F 0 a1
def J0 (F:Nat) (p0:(List (List api_Span))) (p1:Int) (p2:Int) (a3:((List (List api_Span))→Int→(List (List api_Span))→Option ((List (List api_Span))×Int))) (a1:(List (List api_Span))) (a0:Int) (a2:(List (List api_Span))):Option ((List (List api_Span))×Int) :=
  bif (decide (a0<((p0.length:Nat):Int))) then ((Ad p0 a0).bind fun a6 =>
  (Ad p0 a0).bind fun a7 =>
  (Fh F a6).bind fun a9 =>
  (Fh F a7).bind fun aA =>
  (Ad a2 a0).bind fun aB =>
  (D1 a2 a0 a9).bind fun a4 =>
  (Ad a1 a0).bind fun aC =>
  (D1 a1 a0 aA).bind fun a5 =>
  (ck (a0+1)).bind fun a8 =>
  a3 a5 a8 a4) else (N5 F p0 p1 p2 a1 a2)
def J1 (F:Nat) (p0:(List (List api_Span))) (p1:Int) (p2:Int):Nat→(List (List api_Span))→Int→(List (List api_Span))→Option ((List (List api_Span))×Int)
  | 0,_,_,_=>none
  | n+1,a0,a2,a1=>J0 F p0 p1 p2 (J1 F p0 p1 p2 n) a0 a2 a1
def Qw (F:Nat) (p0:(List (List api_Span))) (p1:Int) (p2:Int) (x6:Int):Option ((List (List api_Span))×Int) :=
  bif (x6 != 0) then (some (([]:(List (List api_Span))),x6)) else ((mkI 24 ((p0.length:Nat):Int) ([]:(List api_Span))).bind fun l8 =>
  (mkI 24 ((p0.length:Nat):Int) ([]:(List api_Span))).bind fun a0 =>
  J1 F p0 p1 p2 F a0 0 l8)
def M1 (a0:(List (List api_Span))):Option (List (List api_Span)) :=
  some a0
def Kk (a1:Int) (k2:(Int→(List (List api_Span))→Option (List (List api_Span)))) (a0:(List (List api_Span))):Option (List (List api_Span)) :=
  (ck (a1+1)).bind fun a2 =>
  k2 a2 a0
def Ey (a3:Int) (a0:(List (List api_Span))) (k2:(Int→(List (List api_Span))→Option (List (List api_Span)))) (a1:(List api_Span)):Option (List (List api_Span)) :=
  (apd 24 a0 ([a1])).bind fun a2 =>
  Kk a3 k2 a2
def De (a1:Int) (k5:(Int→(List api_Span)→Int→Option (List (List api_Span)))) (a0:(List api_Span)) (a2:Int):Option (List (List api_Span)) :=
  (ck (a1+1)).bind fun a3 =>
  k5 a3 a0 a2
def Hy (a7:Int) (a4:(List (List api_Span))) (k2:(Int→(List (List api_Span))→Option (List (List api_Span)))) (a5:(List Int)) (k5:(Int→(List api_Span)→Int→Option (List (List api_Span)))) (a1:Int) (a0:(List api_Span)) (a2:Int):Option (List (List api_Span)) :=
  bif (decide (a1<((a5.length:Nat):Int))) then ((Ad a5 a1).bind fun a6 =>
  bif (decide (a1≥6)) then (Ey a7 a4 k2 a0) else ((N8 a1 2).bind fun aD =>
  bif (aD==0) then ((ck a6).bind fun aE =>
  (N8 aE 12).bind fun aF =>
  (ck (1+aF)).bind fun aG =>
  (ck (a2+aG)).bind fun a3 =>
  (ck (a3-20)).bind fun aH =>
  (ck (a3-20)).bind fun aI =>
  (apd 16 a0 ([(D0 aH aI)])).bind fun aA =>
  De a1 k5 aA a3) else (bif (decide (((a0.length:Nat):Int)>0)) then ((ck a6).bind fun aJ =>
  (N8 aJ 8).bind fun aK =>
  (ck (a2+aK)).bind fun a8 =>
  (ck (((a0.length:Nat):Int)-1)).bind fun a9 =>
  (ck (a8-20)).bind fun aL =>
  (Ad a0 a9).bind fun aC =>
  (D1 a0 a9 (api_Span.mk aC.Lo aL)).bind fun aB =>
  De a1 k5 aB a8) else (De a1 k5 a0 a2)))) else (Ey a7 a4 k2 a0)
def Ct (a2:Int) (a0:(List (List api_Span))) (k2:(Int→(List (List api_Span))→Option (List (List api_Span)))) (a1:(List Int)):Nat→Int→(List api_Span)→Int→Option (List (List api_Span))
  | 0,_,_,_=>none
  | n+1,a4,a3,a5=>Hy a2 a0 k2 a1 (Ct a2 a0 k2 a1 n) a4 a3 a5
def Fu (F:Nat) (p0:(List (List Int))) (k2:(Int→(List (List api_Span))→Option (List (List api_Span)))) (a0:Int) (a1:(List (List api_Span))):Option (List (List api_Span)) :=
  bif (decide (a0<((p0.length:Nat):Int))) then ((Ad p0 a0).bind fun a2 =>
  Ct a0 a1 k2 a2 F 0 ([]) 0) else (M1 a1)
def E2 (F:Nat) (p0:(List (List Int))):Nat→Int→(List (List api_Span))→Option (List (List api_Span))
  | 0,_,_=>none
  | n+1,a1,a0=>Fu F p0 (E2 F p0 n) a1 a0
def My (F:Nat) (p0:(List (List Int))):Option (List (List api_Span)) :=
  E2 F p0 F 0 ([])
def Kj (a0:(A7 Bool 80)):Option (A7 Bool 80) :=
  some a0
def Hw (a1:Int) (k2:((A7 Bool 80)→Int→Option (A7 Bool 80))) (a0:(A7 Bool 80)):Option (A7 Bool 80) :=
  (ck (a1+1)).bind fun a2 =>
  k2 a0 a2
def Gm (a1:Int) (k4:((A7 Bool 80)→Int→Option (A7 Bool 80))) (a0:(A7 Bool 80)):Option (A7 Bool 80) :=
  (ck (a1+1)).bind fun a2 =>
  k4 a0 a2
def Ft (a5:Int) (k2:((A7 Bool 80)→Int→Option (A7 Bool 80))) (a4:api_Span) (k4:((A7 Bool 80)→Int→Option (A7 Bool 80))) (a1:(A7 Bool 80)) (a0:Int):Option (A7 Bool 80) :=
  bif (bif (decide (a0≤a4.Hi)) then (decide (a0<60)) else false) then (bif (decide (a0≥(-20))) then ((ck (a0-(-20))).bind fun a2 =>
  (Pq a1 a2).bind fun a6 =>
  (Xe a1 a2 true).bind fun a3 =>
  Gm a0 k4 a3) else (Gm a0 k4 a1)) else (Hw a5 k2 a1)
def Ex (a1:Int) (k2:((A7 Bool 80)→Int→Option (A7 Bool 80))) (a0:api_Span):Nat→(A7 Bool 80)→Int→Option (A7 Bool 80)
  | 0,_,_=>none
  | n+1,a2,a3=>Ft a1 k2 a0 (Ex a1 k2 a0 n) a2 a3
def Fs (F:Nat) (p0:(List api_Span)) (k2:((A7 Bool 80)→Int→Option (A7 Bool 80))) (a2:(A7 Bool 80)) (a0:Int):Option (A7 Bool 80) :=
  bif (decide (a0<((p0.length:Nat):Int))) then ((Ad p0 a0).bind fun a1 =>
  Ex a0 k2 a1 F a2 a1.Lo) else (Kj a2)
def Ew (F:Nat) (p0:(List api_Span)):Nat→(A7 Bool 80)→Int→Option (A7 Bool 80)
  | 0,_,_=>none
  | n+1,a0,a1=>Fs F p0 (Ew F p0 n) a0 a1
def Gf (F:Nat) (p0:(List api_Span)):Option (A7 Bool 80) :=
  Ew F p0 F (default:A7 Bool 80) 0
def Kt (a0:(A7 Bool 80)):Option (A7 Bool 80) :=
  some a0
def Gg (a1:Int) (k2:((A7 Bool 80)→Int→Option (A7 Bool 80))) (a0:(A7 Bool 80)):Option (A7 Bool 80) :=
  (ck (a1+1)).bind fun a2 =>
  k2 a0 a2
def Ed (p0:(A7 Bool 80)) (p1:(A7 Bool 80)) (p2:Int) (a0:Int) (k2:((A7 Bool 80)→Int→Option (A7 Bool 80))) (k4:((A7 Bool 80)→Int→Option (A7 Bool 80))) (a2:(A7 Bool 80)) (a1:Int):Option (A7 Bool 80) :=
  (ck (a0+p2)).bind fun a4 =>
  (gd (((bif (decide (a1≤a4)) then (decide (a1<80)) else false)==true&&true)) (Pq p0 a0) default).bind fun a6 =>
  bif (bif (bif (decide (a1≤a4)) then (decide (a1<80)) else false) then a6 else false) then ((Pq a2 a0).bind fun a3 =>
  (gd ((a3==false&&true)) (Pq p1 a1) default).bind fun a7 =>
  (Pq a2 a0).bind fun a9 =>
  (Xe a2 a0 (bif a3 then true else a7)).bind fun a5 =>
  (ck (a1+1)).bind fun a8 =>
  k4 a5 a8) else (Gg a0 k2 a2)
def Du (p0:(A7 Bool 80)) (p1:(A7 Bool 80)) (p2:Int) (a0:Int) (k2:((A7 Bool 80)→Int→Option (A7 Bool 80))):Nat→(A7 Bool 80)→Int→Option (A7 Bool 80)
  | 0,_,_=>none
  | n+1,a1,a2=>Ed p0 p1 p2 a0 k2 (Du p0 p1 p2 a0 k2 n) a1 a2
def Ec (F:Nat) (p0:(A7 Bool 80)) (p1:(A7 Bool 80)) (p2:Int) (k2:((A7 Bool 80)→Int→Option (A7 Bool 80))) (a1:(A7 Bool 80)) (a0:Int):Option (A7 Bool 80) :=
  bif (decide (a0<80)) then ((ck (a0-p2)).bind fun a2 =>
  Du p0 p1 p2 a0 k2 F a1 (if a2>0 then a2 else 0)) else (Kt a1)
def Cw (F:Nat) (p0:(A7 Bool 80)) (p1:(A7 Bool 80)) (p2:Int):Nat→(A7 Bool 80)→Int→Option (A7 Bool 80)
  | 0,_,_=>none
  | n+1,a0,a1=>Ec F p0 p1 p2 (Cw F p0 p1 p2 n) a0 a1
def Ff (F:Nat) (p0:(A7 Bool 80)) (p1:(A7 Bool 80)) (p2:Int):Option (A7 Bool 80) :=
  Cw F p0 p1 p2 F (default:A7 Bool 80) 0
def Ku:Option Bool :=
  some true
def Ee (p0:(List api_Span)) (p1:(A7 Bool 80)) (k2:(Int→Option Bool)) (a1:Int):Option Bool :=
  bif (decide (a1<((p0.length:Nat):Int))) then ((Ad p0 a1).bind fun a0 =>
  (gd (((decide (a1>0))==true&&((decide (a0.Lo>a0.Hi))==false&&true))) (ck (a1-1)) 0).bind fun a5 =>
  (gd (((decide (a1>0))==true&&((decide (a0.Lo>a0.Hi))==false&&true))) (Ad p0 a5) default).bind fun a2 =>
  (gd (((bif (bif (bif (decide (a0.Lo>a0.Hi)) then true else (bif (decide (a1>0)) then (decide (a0.Lo≤a2.Hi)) else false)) then true else (decide (a0.Lo<(-20)))) then true else (decide (a0.Hi≥60)))==false&&true)) (ck (a0.Lo-(-20))) 0).bind fun a6 =>
  (gd (((bif (bif (bif (decide (a0.Lo>a0.Hi)) then true else (bif (decide (a1>0)) then (decide (a0.Lo≤a2.Hi)) else false)) then true else (decide (a0.Lo<(-20)))) then true else (decide (a0.Hi≥60)))==false&&true)) (Pq p1 a6) default).bind fun a3 =>
  (gd (((bif (bif (bif (bif (decide (a0.Lo>a0.Hi)) then true else (bif (decide (a1>0)) then (decide (a0.Lo≤a2.Hi)) else false)) then true else (decide (a0.Lo<(-20)))) then true else (decide (a0.Hi≥60))) then true else (!a3))==false&&true)) (ck (a0.Hi-(-20))) 0).bind fun a7 =>
  (gd (((bif (bif (bif (bif (decide (a0.Lo>a0.Hi)) then true else (bif (decide (a1>0)) then (decide (a0.Lo≤a2.Hi)) else false)) then true else (decide (a0.Lo<(-20)))) then true else (decide (a0.Hi≥60))) then true else (!a3))==false&&true)) (Pq p1 a7) default).bind fun a4 =>
  bif (bif (bif (bif (bif (bif (decide (a0.Lo>a0.Hi)) then true else (bif (decide (a1>0)) then (decide (a0.Lo≤a2.Hi)) else false)) then true else (decide (a0.Lo<(-20)))) then true else (decide (a0.Hi≥60))) then true else (!a3)) then true else (!a4)) then (some false) else ((ck (a1+1)).bind fun a8 =>
  k2 a8)) else (Ku)
def Ef (p0:(List api_Span)) (p1:(A7 Bool 80)):Nat→Int→Option Bool
  | 0,_=>none
  | n+1,a0=>Ee p0 p1 (Ef p0 p1 n) a0
def Hb (F:Nat) (p0:(List api_Span)) (p1:(A7 Bool 80)):Option Bool :=
  Ef p0 p1 F 0
def Br (F:Nat) (p0:Int) (p1:Int) (p2:Int) (p3:Int) (p4:Int) (c0_:(List (List (A7 Bool 80)))) (c1_:Bool):Option ((List (List (A7 Bool 80)))×Bool) :=
  (Ad c0_ p0).bind fun u6 =>
  (Ad u6 p1).bind fun aR =>
  (Ad c0_ p2).bind fun aS =>
  (Ad aS p3).bind fun aT =>
  (Ad c0_ p2).bind fun aU =>
  (Ad aU p3).bind fun aX =>
  (Ad c0_ p0).bind fun aY =>
  (Ad aY p1).bind fun b0 =>
  (Ff F aR aT p4).bind fun a0 =>
  (Ff F aX b0 p4).bind fun a1 =>
  bif c1_ then (bif (bif c1_ then true else false) then ((Ad c0_ p0).bind fun a7 =>
  (Ad c0_ p2).bind fun b3 =>
  (Ad a7 p1).bind fun b4 =>
  (D1 a7 p1 a0).bind fun aF =>
  (D1 c0_ p0 aF).bind fun a3 =>
  (Ad a3 p2).bind fun a8 =>
  (Ad a8 p3).bind fun b5 =>
  (D1 a8 p3 a1).bind fun aG =>
  (D1 a3 p2 aG).bind fun aH =>
  some (aH,bif (bif c1_ then true else false) then true else false)) else ((Ad c0_ p2).bind fun aV =>
  (Ad aV p3).bind fun aW =>
  (Ad c0_ p0).bind fun a9 =>
  (Ad c0_ p2).bind fun b6 =>
  (Ad a9 p1).bind fun b7 =>
  (D1 a9 p1 a0).bind fun aI =>
  (D1 c0_ p0 aI).bind fun a4 =>
  (Ad a4 p2).bind fun aA =>
  (Ad aA p3).bind fun b8 =>
  (D1 aA p3 a1).bind fun aJ =>
  (D1 a4 p2 aJ).bind fun aK =>
  some (aK,bif (bif c1_ then true else false) then true else (!decide (a1=aW))))) else ((Ad c0_ p0).bind fun aZ =>
  (Ad aZ p1).bind fun a2 =>
  bif (bif c1_ then true else (!decide (a0=a2))) then ((Ad c0_ p0).bind fun aB =>
  (Ad c0_ p2).bind fun b9 =>
  (Ad aB p1).bind fun bA =>
  (D1 aB p1 a0).bind fun aL =>
  (D1 c0_ p0 aL).bind fun a5 =>
  (Ad a5 p2).bind fun aC =>
  (Ad aC p3).bind fun bB =>
  (D1 aC p3 a1).bind fun aM =>
  (D1 a5 p2 aM).bind fun aN =>
  some (aN,bif (bif c1_ then true else (!decide (a0=a2))) then true else false)) else ((Ad c0_ p2).bind fun b1 =>
  (Ad b1 p3).bind fun b2 =>
  (Ad c0_ p0).bind fun aD =>
  (Ad c0_ p2).bind fun bC =>
  (Ad aD p1).bind fun bD =>
  (D1 aD p1 a0).bind fun aO =>
  (D1 c0_ p0 aO).bind fun a6 =>
  (Ad a6 p2).bind fun aE =>
  (Ad aE p3).bind fun bE =>
  (D1 aE p3 a1).bind fun aP =>
  (D1 a6 p2 aP).bind fun aQ =>
  some (aQ,bif (bif c1_ then true else (!decide (a0=a2))) then true else (!decide (a1=b2)))))
def Hm:Option Bool :=
  some Fg
def Dq (a0:Int) (k5:(Int→Option Bool)):Option Bool :=
  (ck (a0+1)).bind fun a1 =>
  k5 a1
def Hl (F:Nat) (x7:Int) (a5:((List (List (List api_Span)))×Int)) (a4:(List (List (A7 Bool 80)))) (a1:Int) (k5:(Int→Option Bool)) (k7:(Int→Option Bool)) (a0:Int):Option Bool :=
  bif (decide (a0<x7)) then ((Ad a5.1 a1).bind fun a6 =>
  (Ad a6 a0).bind fun a7 =>
  (Gf F a7).bind fun a3 =>
  (Ad a4 a1).bind fun a8 =>
  (Ad a8 a0).bind fun a2 =>
  bif (!decide (a3=a2)) then (bif (bif (!decide (a3=a2)) then true else true) then (some false) else ((ck (a0+1)).bind fun aD =>
  k7 aD)) else ((Ad a5.1 a1).bind fun a9 =>
  (Ad a9 a0).bind fun aA =>
  (Ad a4 a1).bind fun aB =>
  (Ad aB a0).bind fun aC =>
  (Hb F aA aC).bind fun aF =>
  bif (bif (!decide (a3=a2)) then true else (!aF)) then (some false) else ((ck (a0+1)).bind fun aE =>
  k7 aE))) else (Dq a1 k5)
def G0 (F:Nat) (x7:Int) (a2:((List (List (List api_Span)))×Int)) (a0:(List (List (A7 Bool 80)))) (a1:Int) (k5:(Int→Option Bool)):Nat→Int→Option Bool
  | 0,_=>none
  | n+1,a3=>Hl F x7 a2 a0 a1 k5 (G0 F x7 a2 a0 a1 k5 n) a3
def Cn (F:Nat) (x7:Int) (a5:((List (List (List api_Span)))×Int)) (a4:(List (List (A7 Bool 80)))) (a1:Int) (k5:(Int→Option Bool)) (k8:(Int→Option Bool)) (a0:Int):Option Bool :=
  bif (decide (a0<x7)) then ((Ad a5.1 a1).bind fun a6 =>
  (Ad a6 a0).bind fun a7 =>
  (Gf F a7).bind fun a3 =>
  (Ad a4 a1).bind fun a8 =>
  (Ad a8 a0).bind fun a2 =>
  bif (!decide (a3=a2)) then (bif (bif (!decide (a3=a2)) then true else true) then (some false) else ((ck (a0+1)).bind fun aD =>
  k8 aD)) else ((Ad a5.1 a1).bind fun a9 =>
  (Ad a9 a0).bind fun aA =>
  (Ad a4 a1).bind fun aB =>
  (Ad aB a0).bind fun aC =>
  (Hb F aA aC).bind fun aF =>
  bif (bif (!decide (a3=a2)) then true else (!aF)) then (some false) else ((ck (a0+1)).bind fun aE =>
  k8 aE))) else (Dq a1 k5)
def Cp (F:Nat) (x7:Int) (a2:((List (List (List api_Span)))×Int)) (a0:(List (List (A7 Bool 80)))) (a1:Int) (k5:(Int→Option Bool)):Nat→Int→Option Bool
  | 0,_=>none
  | n+1,a3=>Cn F x7 a2 a0 a1 k5 (Cp F x7 a2 a0 a1 k5 n) a3
def Cm (F:Nat) (p0:(List (List (List Int)))) (x7:Int) (a1:((List (List (List api_Span)))×Int)) (a3:(List (List (A7 Bool 80)))) (a6:Int) (aA:((List (List (List api_Span)))×Int)) (k5:(Int→Option Bool)) (a0:Int):Option Bool :=
  bif (decide (a0<((a1.1.length:Nat):Int))) then ((Ad a1.1 a0).bind fun a2 =>
  bif (((a2.length:Nat):Int) != x7) then (bif (bif (((a2.length:Nat):Int) != x7) then true else true) then (some false) else (G0 F x7 a1 a3 a0 k5 F 0)) else ((Ad a1.1 a0).bind fun a4 =>
  (ck (a0-a6)).bind fun a7 =>
  (ck (a7+((p0.length:Nat):Int))).bind fun a8 =>
  (N8 a8 ((p0.length:Nat):Int)).bind fun a9 =>
  (Ad aA.1 a9).bind fun a5 =>
  (K7 F a4 a5).bind fun aB =>
  bif (bif (((a2.length:Nat):Int) != x7) then true else (!aB)) then (some false) else (Cp F x7 a1 a3 a0 k5 F 0))) else (Hm)
def C4 (F:Nat) (p0:(List (List (List Int)))) (x7:Int) (a2:((List (List (List api_Span)))×Int)) (a0:(List (List (A7 Bool 80)))) (a1:Int) (a3:((List (List (List api_Span)))×Int)):Nat→Int→Option Bool
  | 0,_=>none
  | n+1,a4=>Cm F p0 x7 a2 a0 a1 a3 (C4 F p0 x7 a2 a0 a1 a3 n) a4
def Dp (F:Nat) (p0:(List (List (List Int)))) (p4:Int) (x7:Int) (x9:Int) (a1:Int) (a0:(List (List (List api_Span)))) (aF:((List (List (List api_Span)))×Int)) (a6:(List (List (A7 Bool 80)))):Option Bool :=
  (ck p4).bind fun aE =>
  (N8 aE ((p0.length:Nat):Int)).bind fun a2 =>
  (Ly a0 a2 ((a0.length:Nat):Int)).bind fun a7 =>
  (Ly a0 (0:Int) a2).bind fun a8 =>
  (apd 24 ([]:List (List (List api_Span))) a7).bind fun a9 =>
  (apd 24 a9 a8).bind fun aA =>
  (K4 F aA x9 a1).bind fun a3 =>
  (Ad a0 0).bind fun aC =>
  (Nq F aC x9 a1).bind fun a5 =>
  (Ly a0 (0:Int) 1).bind fun aB =>
  (K4 F aB x9 a1).bind fun a4 =>
  bif (bif (bif (bif (bif (a3.2 != 0) then true else (a5.2 != 0)) then true else (a4.2 != 0)) then true else (((a3.1.length:Nat):Int) != ((p0.length:Nat):Int))) then true else (((a4.1.length:Nat):Int) != 1)) then (some false) else ((Ad a4.1 0).bind fun aD =>
  (K7 F aD a5.1).bind fun aG =>
  bif (!aG) then (some false) else (C4 F p0 x7 aF a6 a2 a3 F 0))
def H5 (k9:((List (List (A7 Bool 80)))→Bool→Option Bool)) (a0:Bool) (a1:(List (List (A7 Bool 80)))):Option Bool :=
  k9 a1 a0
def D5 (a3:Int) (a1:(Bool→(List (List (A7 Bool 80)))→Int→Option Bool)) (a0:Bool) (a2:(List (List (A7 Bool 80)))):Option Bool :=
  (ck (a3+1)).bind fun a4 =>
  a1 a0 a2 a4
def Bf (a3:Int) (a1:(Bool→(List (List (A7 Bool 80)))→Int→Option Bool)) (a0:Bool) (a2:(List (List (A7 Bool 80)))):Option Bool :=
  (ck (a3+1)).bind fun a4 =>
  a1 a0 a2 a4
def C9 (F:Nat) (p0:(List (List (List Int)))) (x9:Int) (aB:Int) (a8:(List (List (List api_Span)))) (a5:Int) (a0:Int) (a3:(Bool→(List (List (A7 Bool 80)))→Int→Option Bool)) (a2:Bool) (a4:(List (List (A7 Bool 80)))) (a7:(Int→Option Bool)) (a1:Int):Option Bool :=
  bif (decide (a1<((p0.length:Nat):Int))) then ((ck (a5+a1)).bind fun aC =>
  (N8 aC ((p0.length:Nat):Int)).bind fun aD =>
  (Ad a8 aD).bind fun a9 =>
  (Ad a9 a0).bind fun aA =>
  bif (decide (((aA.length:Nat):Int)>0)) then (bif (decide (a1≤aB)) then ((ck (a5+a1)).bind fun aE =>
  (N8 aE ((p0.length:Nat):Int)).bind fun aF =>
  (ck (x9*a1)).bind fun aG =>
  (Br F a5 a0 aF a0 aG a4 a2).bind fun a6 =>
  Bf a0 a3 a6.2 a6.1) else (Bf a0 a3 a2 a4)) else ((ck (a1+1)).bind fun aH =>
  a7 aH)) else (Bf a0 a3 a2 a4)
def Bx (F:Nat) (p0:(List (List (List Int)))) (x9:Int) (a4:Int) (a3:(List (List (List api_Span)))) (a5:Int) (a6:Int) (a1:(Bool→(List (List (A7 Bool 80)))→Int→Option Bool)) (a0:Bool) (a2:(List (List (A7 Bool 80)))):Nat→Int→Option Bool
  | 0,_=>none
  | n+1,a7=>C9 F p0 x9 a4 a3 a5 a6 a1 a0 a2 (Bx F p0 x9 a4 a3 a5 a6 a1 a0 a2 n) a7
def D6 (F:Nat) (p0:(List (List (List Int)))) (x9:Int) (a4:Int) (a3:(List (List (List api_Span)))) (a5:Int) (a6:Int) (a1:(Bool→(List (List (A7 Bool 80)))→Int→Option Bool)) (a0:Bool) (a2:(List (List (A7 Bool 80)))):Option Bool :=
  Bx F p0 x9 a4 a3 a5 a6 a1 a0 a2 F 1
def Ca (F:Nat) (p0:(List (List (List Int)))) (x7:Int) (x9:Int) (a4:Int) (a3:(List (List (List api_Span)))) (a0:Int) (a5:Bool) (a7:(List (List (A7 Bool 80)))) (a1:Int) (a6:(Bool→(List (List (A7 Bool 80)))→Int→Option Bool)) (a9:(Int→Option Bool)) (a2:Int):Option Bool :=
  bif (decide (a2<x7)) then ((Ad a3 a0).bind fun aA =>
  (Ad aA a2).bind fun aB =>
  bif (decide (((aB.length:Nat):Int)>0)) then ((ck (a2-a1)).bind fun aC =>
  bif (decide (aC≤a4)) then ((ck (a2-a1)).bind fun aD =>
  (ck (x9*aD)).bind fun aE =>
  (Br F a0 a1 a0 a2 aE a7 a5).bind fun a8 =>
  D6 F p0 x9 a4 a3 a0 a1 a6 a8.2 a8.1) else (D6 F p0 x9 a4 a3 a0 a1 a6 a5 a7)) else ((ck (a2+1)).bind fun aF =>
  a9 aF)) else (D6 F p0 x9 a4 a3 a0 a1 a6 a5 a7)
def By (F:Nat) (p0:(List (List (List Int)))) (x7:Int) (x9:Int) (a4:Int) (a3:(List (List (List api_Span)))) (a5:Int) (a0:Bool) (a2:(List (List (A7 Bool 80)))) (a6:Int) (a1:(Bool→(List (List (A7 Bool 80)))→Int→Option Bool)):Nat→Int→Option Bool
  | 0,_=>none
  | n+1,a7=>Ca F p0 x7 x9 a4 a3 a5 a0 a2 a6 a1 (By F p0 x7 x9 a4 a3 a5 a0 a2 a6 a1 n) a7
def C8 (F:Nat) (p0:(List (List (List Int)))) (x7:Int) (x9:Int) (a9:Int) (a5:(List (List (List api_Span)))) (a3:Int) (a6:(Bool→(List (List (A7 Bool 80)))→Int→Option Bool)) (a4:(Bool→(List (List (A7 Bool 80)))→Int→Option Bool)) (a1:Bool) (a2:(List (List (A7 Bool 80)))) (a0:Int):Option Bool :=
  bif (decide (a0<x7)) then ((Ad a5 a3).bind fun a7 =>
  (Ad a7 a0).bind fun a8 =>
  bif (((a8.length:Nat):Int)==0) then (Bf a0 a4 a1 a2) else ((ck (a0+1)).bind fun aA =>
  By F p0 x7 x9 a9 a5 a3 a1 a2 a0 a4 F aA)) else (D5 a3 a6 a1 a2)
def Bj (F:Nat) (p0:(List (List (List Int)))) (x7:Int) (x9:Int) (a2:Int) (a1:(List (List (List api_Span)))) (a3:Int) (a0:(Bool→(List (List (A7 Bool 80)))→Int→Option Bool)):Nat→Bool→(List (List (A7 Bool 80)))→Int→Option Bool
  | 0,_,_,_=>none
  | n+1,a4,a5,a6=>C8 F p0 x7 x9 a2 a1 a3 a0 (Bj F p0 x7 x9 a2 a1 a3 a0 n) a4 a5 a6
def C7 (F:Nat) (p0:(List (List (List Int)))) (x7:Int) (x9:Int) (a5:Int) (a2:(List (List (List api_Span)))) (k9:((List (List (A7 Bool 80)))→Bool→Option Bool)) (a4:(Bool→(List (List (A7 Bool 80)))→Int→Option Bool)) (a0:Bool) (a1:(List (List (A7 Bool 80)))) (a3:Int):Option Bool :=
  bif (decide (a3<((a2.length:Nat):Int))) then (Bj F p0 x7 x9 a5 a2 a3 a4 F a0 a1 0) else (H5 k9 a0 a1)
def Bn (F:Nat) (p0:(List (List (List Int)))) (x7:Int) (x9:Int) (a1:Int) (a0:(List (List (List api_Span)))) (k9:((List (List (A7 Bool 80)))→Bool→Option Bool)):Nat→Bool→(List (List (A7 Bool 80)))→Int→Option Bool
  | 0,_,_,_=>none
  | n+1,a2,a3,a4=>C7 F p0 x7 x9 a1 a0 k9 (Bn F p0 x7 x9 a1 a0 k9 n) a2 a3 a4
def Co (F:Nat) (p0:(List (List (List Int)))) (p4:Int) (x7:Int) (x9:Int) (a2:Int) (a1:(List (List (List api_Span)))) (a4:((List (List (List api_Span)))×Int)) (k9:((List (List (A7 Bool 80)))→Bool→Option Bool)) (a0:(List (List (A7 Bool 80)))) (a3:Bool):Option Bool :=
  bif a3 then (Bn F p0 x7 x9 a2 a1 k9 F false a0 0) else (Dp F p0 p4 x7 x9 a2 a1 a4 a0)
def Bt (F:Nat) (p0:(List (List (List Int)))) (p4:Int) (x7:Int) (x9:Int) (a1:Int) (a0:(List (List (List api_Span)))) (a2:((List (List (List api_Span)))×Int)):Nat→(List (List (A7 Bool 80)))→Bool→Option Bool
  | 0,_,_=>none
  | n+1,a4,a3=>Co F p0 p4 x7 x9 a1 a0 a2 (Bt F p0 p4 x7 x9 a1 a0 a2 n) a4 a3
def El (F:Nat) (p0:(List (List (List Int)))) (p4:Int) (x7:Int) (x9:Int) (a2:Int) (a0:(List (List (List api_Span)))) (a3:((List (List (List api_Span)))×Int)) (a1:(List (List (A7 Bool 80)))):Option Bool :=
  Bt F p0 p4 x7 x9 a2 a0 a3 F a1 true
def E6 (a2:Int) (a0:((List (List (A7 Bool 80)))→Int→Option Bool)) (a1:(List (List (A7 Bool 80)))):Option Bool :=
  (ck (a2+1)).bind fun a3 =>
  a0 a1 a3
def Cc (F:Nat) (x7:Int) (a8:(List (List (List api_Span)))) (a1:Int) (a4:((List (List (A7 Bool 80)))→Int→Option Bool)) (a5:((List (List (A7 Bool 80)))→Int→Option Bool)) (a2:(List (List (A7 Bool 80)))) (a0:Int):Option Bool :=
  bif (decide (a0<x7)) then ((Ad a2 a1).bind fun a3 =>
  (Ad a8 a1).bind fun a9 =>
  (Ad a9 a0).bind fun aA =>
  (Gf F aA).bind fun aC =>
  (Ad a3 a0).bind fun aD =>
  (D1 a3 a0 aC).bind fun a6 =>
  (D1 a2 a1 a6).bind fun a7 =>
  (ck (a0+1)).bind fun aB =>
  a5 a7 aB) else (E6 a1 a4 a2)
def Bz (F:Nat) (x7:Int) (a1:(List (List (List api_Span)))) (a2:Int) (a0:((List (List (A7 Bool 80)))→Int→Option Bool)):Nat→(List (List (A7 Bool 80)))→Int→Option Bool
  | 0,_,_=>none
  | n+1,a3,a4=>Cc F x7 a1 a2 a0 (Bz F x7 a1 a2 a0 n) a3 a4
def Cb (F:Nat) (p0:(List (List (List Int)))) (p4:Int) (x7:Int) (x9:Int) (a6:Int) (a2:(List (List (List api_Span)))) (a7:((List (List (List api_Span)))×Int)) (a3:((List (List (A7 Bool 80)))→Int→Option Bool)) (a1:(List (List (A7 Bool 80)))) (a0:Int):Option Bool :=
  bif (decide (a0<((a2.length:Nat):Int))) then ((mkI 80 x7 (default:A7 Bool 80)).bind fun a4 =>
  (Ad a1 a0).bind fun a8 =>
  (D1 a1 a0 a4).bind fun a5 =>
  Bz F x7 a2 a0 a3 F a5 0) else (El F p0 p4 x7 x9 a6 a2 a7 a1)
def Bo (F:Nat) (p0:(List (List (List Int)))) (p4:Int) (x7:Int) (x9:Int) (a1:Int) (a0:(List (List (List api_Span)))) (a2:((List (List (List api_Span)))×Int)):Nat→(List (List (A7 Bool 80)))→Int→Option Bool
  | 0,_,_=>none
  | n+1,a3,a4=>Cb F p0 p4 x7 x9 a1 a0 a2 (Bo F p0 p4 x7 x9 a1 a0 a2 n) a3 a4
def Ek (F:Nat) (p0:(List (List (List Int)))) (p4:Int) (x7:Int) (x9:Int) (a2:Int) (a1:(List (List (List api_Span)))):Option Bool :=
  (K4 F a1 x9 a2).bind fun a0 =>
  bif (bif (a0.2 != 0) then true else (((a0.1.length:Nat):Int) != ((p0.length:Nat):Int))) then (some false) else ((mkI 24 ((p0.length:Nat):Int) ([]:(List (A7 Bool 80)))).bind fun a3 =>
  Bo F p0 p4 x7 x9 a2 a1 a0 F a3 0)
def Fe (a2:Int) (a0:((List (List (List api_Span)))→Int→Option Bool)) (a1:(List (List (List api_Span)))):Option Bool :=
  (ck (a2+1)).bind fun a3 =>
  a0 a1 a3
def D7 (F:Nat) (a1:(List (List (List api_Span)))) (a0:Int) (a2:((List (List (List api_Span)))→Int→Option Bool)) (a3:(List (List Int))):Option Bool :=
  (My F a3).bind fun a5 =>
  (Ad a1 a0).bind fun a6 =>
  (D1 a1 a0 a5).bind fun a4 =>
  Fe a0 a2 a4
def D8 (a1:(List (List Int))) (a4:Int) (a0:((List (List Int))→Int→Option Bool)) (a2:(List Int)):Option Bool :=
  (apd 24 a1 ([a2])).bind fun a3 =>
  (ck (a4+1)).bind fun a5 =>
  a0 a3 a5
def Cf (F:Nat) (p0:(List (List (List Int)))) (x7:Int) (a5:(List (List (List api_Span)))) (a2:Int) (a4:((List (List (List api_Span)))→Int→Option Bool)) (a3:((List (List Int))→Int→Option Bool)) (a1:(List (List Int))) (a0:Int):Option Bool :=
  bif (decide (a0<x7)) then ((Ad p0 a2).bind fun a6 =>
  bif (decide (a0<((a6.length:Nat):Int))) then ((Ad p0 a2).bind fun a7 =>
  (Ad a7 a0).bind fun a8 =>
  D8 a1 a0 a3 a8) else (D8 a1 a0 a3 ([]))) else (D7 F a5 a2 a4 a1)
def Bq (F:Nat) (p0:(List (List (List Int)))) (x7:Int) (a1:(List (List (List api_Span)))) (a2:Int) (a0:((List (List (List api_Span)))→Int→Option Bool)):Nat→(List (List Int))→Int→Option Bool
  | 0,_,_=>none
  | n+1,a3,a4=>Cf F p0 x7 a1 a2 a0 (Bq F p0 x7 a1 a2 a0 n) a3 a4
def Ce (F:Nat) (p0:(List (List (List Int)))) (p4:Int) (x7:Int) (x9:Int) (a3:Int) (a2:((List (List (List api_Span)))→Int→Option Bool)) (a0:(List (List (List api_Span)))) (a1:Int):Option Bool :=
  bif (decide (a1<((p0.length:Nat):Int))) then (Bq F p0 x7 a0 a1 a2 F ([]) 0) else (Ek F p0 p4 x7 x9 a3 a0)
def Bp (F:Nat) (p0:(List (List (List Int)))) (p4:Int) (x7:Int) (x9:Int) (a0:Int):Nat→(List (List (List api_Span)))→Int→Option Bool
  | 0,_,_=>none
  | n+1,a1,a2=>Ce F p0 p4 x7 x9 a0 (Bp F p0 p4 x7 x9 a0 n) a1 a2
def G5 (F:Nat) (p0:(List (List (List Int)))) (p1:Int) (p2:Int) (p3:Int) (p4:Int):Option Bool :=
  bif (bif (decide (((p0.length:Nat):Int)<1)) then true else (decide (((p0.length:Nat):Int)>5))) then (some Fg) else ((ck p1).bind fun x5 =>
  (N8 x5 3).bind fun x6 =>
  (ck (1+x6)).bind fun x7 =>
  (ck p2).bind fun x8 =>
  (N8 x8 13).bind fun x9 =>
  (ck p3).bind fun a1 =>
  (N8 a1 3).bind fun a2 =>
  (ck (1+a2)).bind fun a3 =>
  (mkI 24 ((p0.length:Nat):Int) ([]:(List (List api_Span)))).bind fun a0 =>
  Bp F p0 p4 x7 x9 a3 F a0 0)
end Go.Proofs.Ytbhjgebjojdohaa
