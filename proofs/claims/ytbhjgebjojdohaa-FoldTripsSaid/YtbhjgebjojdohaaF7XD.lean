import Derived.Test.YtbhjgebjojdohaaF7EB
namespace Go.Proofs.Ytbhjgebjojdohaa
open Go Go.RowKit Go.Eng
set_option maxRecDepth 10000
set_option maxHeartbeats 4000000
set_option linter.unusedVariables false
set_option linter.unusedSimpArgs false
structure api_Span where
  Lo:Int
  Hi:Int
  deriving Inhabited,DecidableEq
def api_Span.cells (x:api_Span):List Value:=[.int .i64 x.Lo,.int .i64 x.Hi]
theorem api_Span.cells_len (x:api_Span):(api_Span.cells x).length=2:=rfl
structure ref03_Net where
  Room:(List (List Int))
  deriving Inhabited,DecidableEq
structure ref03_Pipe where
  From:Int
  To:Int
  Span:api_Span
  deriving Inhabited,DecidableEq
def ref03_Pipe.cells (x:ref03_Pipe):List Value:=[.int .i64 x.From,.int .i64 x.To,.int .i64 x.Span.Lo,.int .i64 x.Span.Hi]
theorem ref03_Pipe.cells_len (x:ref03_Pipe):(ref03_Pipe.cells x).length=4:=rfl
abbrev ref03_Pipe.e0 (x:ref03_Pipe):Bool:=(((x.From:Int)==0)&&(((x.To:Int)==0)&&(((x.Span.Lo:Int)==0)&&(((x.Span.Hi:Int)==0)&&true))))
def Rp43:Rel (List api_Span):=fun μ cs x=>∃(ad1:Option Addr) (cap2:Nat),cs=[.slice ad1 x.length cap2]∧ArrM μ 2 api_Span.cells ad1 cap2 x
theorem Rp43.mono:Rel.Mono Rp43:=by
  intro μ ν cs x hle h;obtain ⟨ad1,cap2,rfl,f0⟩:=h;exact ⟨ad1,cap2,rfl,f0.mono hle⟩
def D8:Bool:=true
def Fg (p0:api_Span) (p1:Int) (p2:Int):Bool :=
  bif (bif (decide (p0.Lo≤p0.Hi)) then (decide (p0.Lo≥p1)) else false) then (decide (p0.Hi≤p2)) else false
def Gv:Option Bool :=
  some true
def Fo (p0:(List api_Span)) (p1:(List api_Span)) (k2:(Int→Option Bool)) (a0:Int):Option Bool :=
  bif (decide (a0<((p0.length:Nat):Int))) then ((getI p0 a0).bind fun a1 =>
  (getI p1 a0).bind fun a2 =>
  bif (!(((a1.Lo:Int)==a2.Lo)&&(((a1.Hi:Int)==a2.Hi)&&true))) then (some false) else ((ck (a0+1)).bind fun a3 =>
  k2 a3)) else (Gv)
def Df (p0:(List api_Span)) (p1:(List api_Span)):Nat→Int→Option Bool
  | 0,_=>none
  | n+1,a0=>Fo p0 p1 (Df p0 p1 n) a0
def Fc (F:Nat) (p0:(List api_Span)) (p1:(List api_Span)):Option Bool :=
  bif (((p0.length:Nat):Int) != ((p1.length:Nat):Int)) then (some false) else (Df p0 p1 F 0)
def Fl (p2:Int):Option Int :=
  bif (bif (decide (p2<1)) then true else (decide (p2>800))) then (some 3) else (some 0)
def Ef (a0:Int) (k2:(Int→Option Int)):Option Int :=
  (ck (a0+1)).bind fun a1 =>
  k2 a1
def Fk (a3:Int) (k2:(Int→Option Int)) (a2:(List api_Span)) (k4:(Int→Option Int)) (a1:Int):Option Int :=
  bif (decide (a1<((a2.length:Nat):Int))) then ((getI a2 a1).bind fun a0 =>
  bif (bif (bif (decide (a0.Lo<0)) then true else (decide (a0.Lo>a0.Hi))) then true else (decide (a0.Hi>1073741824))) then (some 3) else ((ck (a1+1)).bind fun a4 =>
  k4 a4)) else (Ef a3 k2)
def Dc (a1:Int) (k2:(Int→Option Int)) (a0:(List api_Span)):Nat→Int→Option Int
  | 0,_=>none
  | n+1,a2=>Fk a1 k2 a0 (Dc a1 k2 a0 n) a2
def Db (F:Nat) (p0:(List api_Span)) (p1:(List api_Span)) (p2:Int) (k2:(Int→Option Int)) (a1:Int):Option Int :=
  bif (decide (a1<((2:Nat):Int))) then ((getI ([p0,p1]) a1).bind fun a0 =>
  bif (bif (decide (((a0.length:Nat):Int)<1)) then true else (decide (((a0.length:Nat):Int)>200))) then (some 3) else (Dc a1 k2 a0 F 0)) else (Fl p2)
def Bq (F:Nat) (p0:(List api_Span)) (p1:(List api_Span)) (p2:Int):Nat→Int→Option Int
  | 0,_=>none
  | n+1,a0=>Db F p0 p1 p2 (Bq F p0 p1 p2 n) a0
def Ci (F:Nat) (p0:(List api_Span)) (p1:(List api_Span)) (p2:Int):Option Int :=
  Bq F p0 p1 p2 F 0
def G8 (p2:(List Int)) (p3:Int) (p4:Int):Option Bool :=
  (gd (((bif (decide (p3≥0)) then (decide (p3<((p2.length:Nat):Int))) else false)==true&&true)) (getI p2 p3) default).bind fun a0 =>
  some (bif (bif (decide (p3≥0)) then (decide (p3<((p2.length:Nat):Int))) else false) then (a0==p4) else false)
def Ez (a0:Int) (k2:(Int→Option Bool)):Option Bool :=
  (ck (a0+1)).bind fun a1 =>
  k2 a1
def G6 (p0:(List api_Span)) (p1:(List api_Span)) (a4:Int) (k2:(Int→Option Bool)) (a3:(List Int)) (k5:(Int→Option Bool)) (a0:Int):Option Bool :=
  bif (decide (a0<((a3.length:Nat):Int))) then ((getI a3 a0).bind fun a1 =>
  (getI ([p0,p1]) a4).bind fun a5 =>
  (getI a5 a0).bind fun a2 =>
  (gd (((decide (a1<a2.Lo))==false&&true)) (getI a3 a0) default).bind fun a6 =>
  bif (decide (a1<a2.Lo)) then (bif (bif (decide (a1<a2.Lo)) then true else (decide (0>0))) then (some false) else ((ck (a0+1)).bind fun a9 =>
  k5 a9)) else ((getI ([p0,p1]) a4).bind fun a7 =>
  (getI a7 a0).bind fun a8 =>
  bif (bif (decide (a1<a2.Lo)) then true else (decide (a6>a8.Hi))) then (some false) else ((ck (a0+1)).bind fun aA =>
  k5 aA))) else (Ez a4 k2)
def E4 (p0:(List api_Span)) (p1:(List api_Span)) (a1:Int) (k2:(Int→Option Bool)) (a0:(List Int)):Nat→Int→Option Bool
  | 0,_=>none
  | n+1,a2=>G6 p0 p1 a1 k2 a0 (E4 p0 p1 a1 k2 a0 n) a2
def F1 (F:Nat) (p0:(List api_Span)) (p1:(List api_Span)) (a1:Int) (k2:(Int→Option Bool)) (a0:(List Int)):Option Bool :=
  E4 p0 p1 a1 k2 a0 F 0
def G7 (F:Nat) (p0:(List api_Span)) (p1:(List api_Span)) (p2:(List Int)) (a8:Int) (k2:(Int→Option Bool)) (k6:((List Int)→Int→Option Bool)) (a1:(List Int)) (a0:Int):Option Bool :=
  bif (decide (a0<((p2.length:Nat):Int))) then ((getI p2 a0).bind fun a3 =>
  (gd (((decide (a3<0))==false&&true)) (getI p2 a0) default).bind fun a5 =>
  bif (bif (decide (a3<0)) then true else (decide (a5>1073741824))) then (some false) else ((Gn a0 ((a1.length:Nat):Int)).bind fun a2 =>
  (getI a1 a2).bind fun a6 =>
  (getI p2 a0).bind fun a7 =>
  (ck (a6+a7)).bind fun a9 =>
  (getI a1 a2).bind fun aB =>
  (B7 a1 a2 a9).bind fun a4 =>
  (ck (a0+1)).bind fun aA =>
  k6 a4 aA)) else (F1 F p0 p1 a8 k2 a1)
def E5 (F:Nat) (p0:(List api_Span)) (p1:(List api_Span)) (p2:(List Int)) (a0:Int) (k2:(Int→Option Bool)):Nat→(List Int)→Int→Option Bool
  | 0,_,_=>none
  | n+1,a1,a2=>G7 F p0 p1 p2 a0 k2 (E5 F p0 p1 p2 a0 k2 n) a1 a2
def C6 (F:Nat) (p0:(List api_Span)) (p1:(List api_Span)) (p2:(List Int)) (p3:Int) (p4:Int) (k2:(Int→Option Bool)) (a0:Int):Option Bool :=
  bif (decide (a0<2)) then ((getI ([p0,p1]) a0).bind fun a2 =>
  (mkI 8 ((a2.length:Nat):Int) 0).bind fun a1 =>
  E5 F p0 p1 p2 a0 k2 F a1 0) else (G8 p2 p3 p4)
def Ay (F:Nat) (p0:(List api_Span)) (p1:(List api_Span)) (p2:(List Int)) (p3:Int) (p4:Int):Nat→Int→Option Bool
  | 0,_=>none
  | n+1,a0=>C6 F p0 p1 p2 p3 p4 (Ay F p0 p1 p2 p3 p4 n) a0
def G2 (F:Nat) (p0:(List api_Span)) (p1:(List api_Span)) (p2:(List Int)) (p3:Int) (p4:Int):Option Bool :=
  Ay F p0 p1 p2 p3 p4 F 0
def Gu (p2:Int):Option Bool :=
  some (bif (decide (p2≤14)) then true else (decide (p2>800)))
def Co (p0:(List api_Span)) (p1:(List api_Span)) (p2:Int) (k2:(Int→Option Bool)) (a0:Int):Option Bool :=
  bif (decide (a0<2)) then ((getI ([((p0.length:Nat):Int),((p1.length:Nat):Int)]) a0).bind fun a1 =>
  (gd (((decide (a1>6))==true&&true)) (getI ([((p0.length:Nat):Int),((p1.length:Nat):Int)]) a0) default).bind fun a2 =>
  (gd (((bif (decide (a1>6)) then (decide (a2≤200)) else false)==false&&true)) (getI ([((p0.length:Nat):Int),((p1.length:Nat):Int)]) a0) default).bind fun a3 =>
  bif (bif (bif (decide (a1>6)) then (decide (a2≤200)) else false) then true else (decide (a3>205))) then (some false) else ((ck (a0+1)).bind fun a4 =>
  k2 a4)) else (Gu p2)
def Cp (p0:(List api_Span)) (p1:(List api_Span)) (p2:Int):Nat→Int→Option Bool
  | 0,_=>none
  | n+1,a0=>Co p0 p1 p2 (Cp p0 p1 p2 n) a0
def Gc (F:Nat) (p0:(List api_Span)) (p1:(List api_Span)) (p2:Int):Option Bool :=
  Cp p0 p1 p2 F 0
def F5 (p2:Int):Option Int :=
  bif (bif (decide (p2<1)) then true else (decide (p2>800))) then (some 3) else (some 0)
def E2 (a0:Int) (k2:(Int→Option Int)):Option Int :=
  (ck (a0+1)).bind fun a1 =>
  k2 a1
def F4 (p0:(List api_Span)) (p1:(List api_Span)) (a0:Int) (k2:(Int→Option Int)) (k4:(Int→Option Int)) (a1:Int):Option Int :=
  (getI ([p0,p1]) a0).bind fun a2 =>
  bif (decide (a1<((a2.length:Nat):Int))) then ((getI ([p0,p1]) a0).bind fun a3 =>
  (getI a3 a1).bind fun a4 =>
  bif (!(Fg a4 0 1073741824)) then (some 3) else ((ck (a1+1)).bind fun a5 =>
  k4 a5)) else (E2 a0 k2)
def D5 (p0:(List api_Span)) (p1:(List api_Span)) (a0:Int) (k2:(Int→Option Int)):Nat→Int→Option Int
  | 0,_=>none
  | n+1,a1=>F4 p0 p1 a0 k2 (D5 p0 p1 a0 k2 n) a1
def D4 (F:Nat) (p0:(List api_Span)) (p1:(List api_Span)) (p2:Int) (k2:(Int→Option Int)) (a0:Int):Option Int :=
  bif (decide (a0<2)) then ((getI ([p0,p1]) a0).bind fun a1 =>
  bif (decide (((a1.length:Nat):Int)<1)) then (some 3) else ((getI ([p0,p1]) a0).bind fun a2 =>
  bif (decide (((a2.length:Nat):Int)>200)) then (some 3) else (D5 p0 p1 a0 k2 F 0))) else (F5 p2)
def Be (F:Nat) (p0:(List api_Span)) (p1:(List api_Span)) (p2:Int):Nat→Int→Option Int
  | 0,_=>none
  | n+1,a0=>D4 F p0 p1 p2 (Be F p0 p1 p2 n) a0
def Cg (F:Nat) (p0:(List api_Span)) (p1:(List api_Span)) (p2:Int):Option Int :=
  Be F p0 p1 p2 F 0
def Dy (a0:(List Int)):Option (List Int) :=
  some a0
def B3 (a2:Int) (k4:(Int→(List Int)→(List Int)→Option (List Int))) (a0:(List Int)) (a1:(List Int)):Option (List Int) :=
  (ck (a2+1)).bind fun a3 =>
  k4 a3 a0 a1
def Cw (p0:ref03_Net) (k3:((List Int)→(List Int)→Option (List Int))) (a3:Int) (k4:(Int→(List Int)→(List Int)→Option (List Int))) (a0:Int) (a1:(List Int)) (a2:(List Int)):Option (List Int) :=
  bif (decide (a0<((p0.Room.length:Nat):Int))) then ((getI p0.Room a3).bind fun a7 =>
  (getI a7 a0).bind fun a4 =>
  (gd (((decide (a4>0))==true&&true)) (getI a1 a0) default).bind fun a8 =>
  bif (bif (decide (a4>0)) then (decide (a8<0)) else false) then ((getI a1 a0).bind fun a9 =>
  (B7 a1 a0 a3).bind fun a5 =>
  (apd 8 a2 ([a0])).bind fun a6 =>
  B3 a0 k4 a5 a6) else (B3 a0 k4 a1 a2)) else (k3 a1 a2)
def Ai (p0:ref03_Net) (k3:((List Int)→(List Int)→Option (List Int))) (a0:Int):Nat→Int→(List Int)→(List Int)→Option (List Int)
  | 0,_,_,_=>none
  | n+1,a3,a1,a2=>Cw p0 k3 a0 (Ai p0 k3 a0 n) a3 a1 a2
def Dx (F:Nat) (p0:ref03_Net) (p2:Int) (k3:((List Int)→(List Int)→Option (List Int))) (a1:(List Int)) (a0:(List Int)):Option (List Int) :=
  (gd (((decide (((a0.length:Nat):Int)>0))==true&&true)) (getI a1 p2) default).bind fun a3 =>
  bif (bif (decide (((a0.length:Nat):Int)>0)) then (decide (a3<0)) else false) then ((getI a0 0).bind fun a4 =>
  (Hp a0 1 ((a0.length:Nat):Int)).bind fun a2 =>
  Ai p0 k3 a4 F 0 a1 a2) else (Dy a1)
def B4 (F:Nat) (p0:ref03_Net) (p2:Int):Nat→(List Int)→(List Int)→Option (List Int)
  | 0,_,_=>none
  | n+1,a0,a1=>Dx F p0 p2 (B4 F p0 p2 n) a0 a1
def Cz (F:Nat) (p0:ref03_Net) (p1:Int) (p2:Int) (a0:(List Int)):Option (List Int) :=
  (getI a0 p1).bind fun a2 =>
  (B7 a0 p1 p1).bind fun a1 =>
  B4 F p0 p2 F a1 ([p1])
def Cy (F:Nat) (p0:ref03_Net) (p1:Int) (p2:Int) (k6:((List Int)→Int→Option (List Int))) (a0:(List Int)) (a1:Int):Option (List Int) :=
  bif (decide (a1<((a0.length:Nat):Int))) then ((getI a0 a1).bind fun a4 =>
  (B7 a0 a1 (-1)).bind fun a2 =>
  (ck (a1+1)).bind fun a3 =>
  k6 a2 a3) else (Cz F p0 p1 p2 a0)
def Bj (F:Nat) (p0:ref03_Net) (p1:Int) (p2:Int):Nat→(List Int)→Int→Option (List Int)
  | 0,_,_=>none
  | n+1,a0,a1=>Cy F p0 p1 p2 (Bj F p0 p1 p2 n) a0 a1
def E0 (F:Nat) (p0:ref03_Net) (p1:Int) (p2:Int):Option (List Int) :=
  (mkI 8 ((p0.Room.length:Nat):Int) 0).bind fun l7 =>
  Bj F p0 p1 p2 F l7 0
def Ct (p1:Int) (k1:((List (List Int))→Option ref03_Net)) (a5:(List Int)) (a8:Int) (k3:((List (List Int))→Int→Option ref03_Net)) (a1:(List (List Int))) (a0:Int):Option ref03_Net :=
  bif (a0 != p1) then ((getI a5 a0).bind fun a7 =>
  (getI a1 a7).bind fun a2 =>
  (getI a2 a0).bind fun aC =>
  (ck (aC-a8)).bind fun aF =>
  (getI a2 a0).bind fun aH =>
  (B7 a2 a0 aF).bind fun a9 =>
  (B7 a1 a7 a9).bind fun a6 =>
  (getI a6 a0).bind fun a3 =>
  (getI a5 a0).bind fun a4 =>
  (getI a3 a4).bind fun aD =>
  (ck (aD+a8)).bind fun aG =>
  (getI a3 a4).bind fun aI =>
  (B7 a3 a4 aG).bind fun aA =>
  (B7 a6 a0 aA).bind fun aB =>
  (getI a5 a0).bind fun aE =>
  k3 aB aE) else (k1 a1)
def Bh (p1:Int) (k1:((List (List Int))→Option ref03_Net)) (a1:(List Int)) (a0:Int):Nat→(List (List Int))→Int→Option ref03_Net
  | 0,_,_=>none
  | n+1,a2,a3=>Ct p1 k1 a1 a0 (Bh p1 k1 a1 a0 n) a2 a3
def Cv (F:Nat) (p1:Int) (p2:Int) (a0:(List (List Int))) (k1:((List (List Int))→Option ref03_Net)) (a2:(List Int)) (a1:Int):Option ref03_Net :=
  Bh p1 k1 a2 a1 F a0 p2
def Cu (F:Nat) (p1:Int) (p2:Int) (a3:(List (List Int))) (k1:((List (List Int))→Option ref03_Net)) (a2:(List Int)) (k4:(Int→Int→Option ref03_Net)) (a1:Int) (a0:Int):Option ref03_Net :=
  bif (a0 != p1) then ((getI a2 a0).bind fun a5 =>
  (getI a3 a5).bind fun a6 =>
  (getI a6 a0).bind fun a4 =>
  (getI a2 a0).bind fun a7 =>
  k4 (if a4<a1 then a4 else a1) a7) else (Cv F p1 p2 a3 k1 a2 a1)
def Bi (F:Nat) (p1:Int) (p2:Int) (a0:(List (List Int))) (k1:((List (List Int))→Option ref03_Net)) (a1:(List Int)):Nat→Int→Int→Option ref03_Net
  | 0,_,_=>none
  | n+1,a2,a3=>Cu F p1 p2 a0 k1 a1 (Bi F p1 p2 a0 k1 a1 n) a2 a3
def Cs (F:Nat) (p1:Int) (p2:Int) (k1:((List (List Int))→Option ref03_Net)) (a0:(List (List Int))):Option ref03_Net :=
  (E0 F (ref03_Net.mk a0) p1 p2).bind fun a1 =>
  (getI a1 p2).bind fun a2 =>
  bif (decide (a2<0)) then (some (ref03_Net.mk a0)) else ((getI a1 p2).bind fun a3 =>
  (getI a0 a3).bind fun a4 =>
  (getI a4 p2).bind fun a5 =>
  Bi F p1 p2 a0 k1 a1 F a5 p2)
def Az (F:Nat) (p1:Int) (p2:Int):Nat→(List (List Int))→Option ref03_Net
  | 0,_=>none
  | n+1,a0=>Cs F p1 p2 (Az F p1 p2 n) a0
def F3 (F:Nat) (p0:ref03_Net) (p1:Int) (p2:Int):Option ref03_Net :=
  Az F p1 p2 F p0.Room
def G3 (a0:(List Int)):Option ((List Int)×Bool) :=
  some (a0,true)
def Dj (p1:(List ref03_Pipe)) (aA:ref03_Net) (k6:((List Int)→Int→Option ((List Int)×Bool))) (a1:(List Int)) (a0:Int):Option ((List Int)×Bool) :=
  bif (decide (a0<((p1.length:Nat):Int))) then ((getI p1 a0).bind fun a3 =>
  (getI p1 a0).bind fun a4 =>
  (getI aA.Room a4.From).bind fun a5 =>
  (getI p1 a0).bind fun a6 =>
  (getI a5 a6.To).bind fun a7 =>
  (ck (a3.Span.Hi-a7)).bind fun a8 =>
  (apd 8 a1 ([a8])).bind fun a2 =>
  (ck (a0+1)).bind fun a9 =>
  k6 a2 a9) else (G3 a1)
def By (p1:(List ref03_Pipe)) (a0:ref03_Net):Nat→(List Int)→Int→Option ((List Int)×Bool)
  | 0,_,_=>none
  | n+1,a1,a2=>Dj p1 a0 (By p1 a0 n) a1 a2
def Dp (F:Nat) (p1:(List ref03_Pipe)) (a0:ref03_Net):Option ((List Int)×Bool) :=
  By p1 a0 F ([]) 0
def Eo (F:Nat) (p0:Int) (p1:(List ref03_Pipe)) (a1:ref03_Net) (k7:(Int→Option ((List Int)×Bool))) (a0:Int):Option ((List Int)×Bool) :=
  bif (decide (a0<p0)) then ((getI a1.Room p0).bind fun a2 =>
  (getI a2 a0).bind fun a3 =>
  bif (decide (a3>0)) then (some (([]:(List Int)),false)) else ((getI a1.Room a0).bind fun a4 =>
  (ck (p0+1)).bind fun a6 =>
  (getI a4 a6).bind fun a5 =>
  bif (decide (a5>0)) then (some (([]:(List Int)),false)) else ((ck (a0+1)).bind fun a7 =>
  k7 a7))) else (Dp F p1 a1)
def Bk (F:Nat) (p0:Int) (p1:(List ref03_Pipe)) (a0:ref03_Net):Nat→Int→Option ((List Int)×Bool)
  | 0,_=>none
  | n+1,a1=>Eo F p0 p1 a0 (Bk F p0 p1 a0 n) a1
def Do (F:Nat) (p0:Int) (p1:(List ref03_Pipe)) (a0:(List (List Int))):Option ((List Int)×Bool) :=
  (ck (p0+1)).bind fun a1 =>
  (F3 F (ref03_Net.mk a0) p0 a1).bind fun a2 =>
  Bk F p0 p1 a2 F 0
def Dk (F:Nat) (p0:Int) (p1:(List ref03_Pipe)) (a2:(List Int)) (k8:((List (List Int))→Int→Option ((List Int)×Bool))) (a1:(List (List Int))) (a0:Int):Option ((List Int)×Bool) :=
  bif (decide (a0<p0)) then ((getI a1 p0).bind fun a4 =>
  (getI a2 a0).bind fun a5 =>
  (getI a4 a0).bind fun aD =>
  (B7 a4 a0 (if a5>0 then a5 else 0)).bind fun a9 =>
  (B7 a1 p0 a9).bind fun a3 =>
  (getI a3 a0).bind fun a6 =>
  (ck (p0+1)).bind fun a8 =>
  (getI a2 a0).bind fun a7 =>
  (getI a6 a8).bind fun aE =>
  (B7 a6 a8 (if IntKind.i64.wrap (0-a7)>0 then IntKind.i64.wrap (0-a7) else 0)).bind fun aA =>
  (B7 a3 a0 aA).bind fun aB =>
  (ck (a0+1)).bind fun aC =>
  k8 aB aC) else (Do F p0 p1 a1)
def Bz (F:Nat) (p0:Int) (p1:(List ref03_Pipe)) (a0:(List Int)):Nat→(List (List Int))→Int→Option ((List Int)×Bool)
  | 0,_,_=>none
  | n+1,a1,a2=>Dk F p0 p1 a0 (Bz F p0 p1 a0 n) a1 a2
def Dn (F:Nat) (p0:Int) (p1:(List ref03_Pipe)) (a0:(List (List Int))) (a1:(List Int)):Option ((List Int)×Bool) :=
  Bz F p0 p1 a1 F a0 0
def Dl (F:Nat) (p0:Int) (p1:(List ref03_Pipe)) (k9:((List (List Int))→(List Int)→Int→Option ((List Int)×Bool))) (a2:(List (List Int))) (a1:(List Int)) (a0:Int):Option ((List Int)×Bool) :=
  bif (decide (a0<((p1.length:Nat):Int))) then ((getI p1 a0).bind fun a8 =>
  (getI a2 a8.From).bind fun a4 =>
  (getI p1 a0).bind fun a5 =>
  (getI a4 a5.To).bind fun aC =>
  (getI p1 a0).bind fun aD =>
  (getI p1 a0).bind fun aE =>
  (ck (aD.Span.Hi-aE.Span.Lo)).bind fun aJ =>
  (ck (aC+aJ)).bind fun aK =>
  (getI a4 a5.To).bind fun aO =>
  (B7 a4 a5.To aK).bind fun a9 =>
  (B7 a2 a8.From a9).bind fun aA =>
  (getI p1 a0).bind fun a6 =>
  (getI a1 a6.To).bind fun aF =>
  (getI p1 a0).bind fun aG =>
  (ck (aF+aG.Span.Lo)).bind fun aL =>
  (getI a1 a6.To).bind fun aP =>
  (B7 a1 a6.To aL).bind fun a3 =>
  (getI p1 a0).bind fun a7 =>
  (getI a3 a7.From).bind fun aH =>
  (getI p1 a0).bind fun aI =>
  (ck (aH-aI.Span.Lo)).bind fun aM =>
  (getI a3 a7.From).bind fun aQ =>
  (B7 a3 a7.From aM).bind fun aB =>
  (ck (a0+1)).bind fun aN =>
  k9 aA aB aN) else (Dn F p0 p1 a2 a1)
def C0 (F:Nat) (p0:Int) (p1:(List ref03_Pipe)):Nat→(List (List Int))→(List Int)→Int→Option ((List Int)×Bool)
  | 0,_,_,_=>none
  | n+1,a0,a1,a2=>Dl F p0 p1 (C0 F p0 p1 n) a0 a1 a2
def Dm (F:Nat) (p0:Int) (p1:(List ref03_Pipe)) (a0:(List (List Int))):Option ((List Int)×Bool) :=
  (mkI 8 p0 0).bind fun a1 =>
  C0 F p0 p1 F a0 a1 0
def Ea (F:Nat) (p0:Int) (p1:(List ref03_Pipe)) (a2:((List (List Int))→Int→Option ((List Int)×Bool))) (a0:(List (List Int))) (a1:Int):Option ((List Int)×Bool) :=
  (ck (p0+2)).bind fun a5 =>
  bif (decide (a1<a5)) then ((ck (p0+2)).bind fun a6 =>
  (mkI 8 a6 0).bind fun a3 =>
  (apd 24 a0 ([a3])).bind fun a4 =>
  (ck (a1+1)).bind fun a7 =>
  a2 a4 a7) else (Dm F p0 p1 a0)
def Ca (F:Nat) (p0:Int) (p1:(List ref03_Pipe)):Nat→(List (List Int))→Int→Option ((List Int)×Bool)
  | 0,_,_=>none
  | n+1,a0,a1=>Ea F p0 p1 (Ca F p0 p1 n) a0 a1
def E6 (F:Nat) (p0:Int) (p1:(List ref03_Pipe)):Option ((List Int)×Bool) :=
  Ca F p0 p1 F ([]) 0
def Ck (F:Nat) (p2:Int) (x9:Int) (a1:(List ref03_Pipe)):Option ((List Int)×Bool) :=
  (ck (x9+1)).bind fun a3 =>
  (E6 F a3 a1).bind fun a0 =>
  bif (!a0.2) then (some (([]:(List Int)),false)) else ((Hp a0.1 (0:Int) p2).bind fun a2 =>
  some (a2,true))
def Dq (F:Nat) (p0:(List api_Span)) (p1:(List api_Span)) (p2:Int) (x9:Int) (k5:((List ref03_Pipe)→Int→Option ((List Int)×Bool))) (a1:(List ref03_Pipe)) (a0:Int):Option ((List Int)×Bool) :=
  bif (decide (a0<((p1.length:Nat):Int))) then ((ck (((p0.length:Nat):Int)+a0)).bind fun a4 =>
  (getI p1 a0).bind fun a3 =>
  (apd 32 a1 ([(ref03_Pipe.mk a4 x9 a3)])).bind fun a2 =>
  (ck (a0+1)).bind fun a5 =>
  k5 a2 a5) else (Ck F p2 x9 a1)
def C1 (F:Nat) (p0:(List api_Span)) (p1:(List api_Span)) (p2:Int) (x9:Int):Nat→(List ref03_Pipe)→Int→Option ((List Int)×Bool)
  | 0,_,_=>none
  | n+1,a0,a1=>Dq F p0 p1 p2 x9 (C1 F p0 p1 p2 x9 n) a0 a1
def Dv (F:Nat) (p0:(List api_Span)) (p1:(List api_Span)) (p2:Int) (x9:Int) (a0:(List ref03_Pipe)):Option ((List Int)×Bool) :=
  C1 F p0 p1 p2 x9 F a0 0
def Dr (F:Nat) (p0:(List api_Span)) (p1:(List api_Span)) (p2:Int) (x9:Int) (k6:((List ref03_Pipe)→Int→Option ((List Int)×Bool))) (a1:(List ref03_Pipe)) (a0:Int):Option ((List Int)×Bool) :=
  bif (decide (a0<((p0.length:Nat):Int))) then ((getI p0 a0).bind fun a3 =>
  (apd 32 a1 ([(ref03_Pipe.mk x9 a0 a3)])).bind fun a2 =>
  (ck (a0+1)).bind fun a4 =>
  k6 a2 a4) else (Dv F p0 p1 p2 x9 a1)
def C2 (F:Nat) (p0:(List api_Span)) (p1:(List api_Span)) (p2:Int) (x9:Int):Nat→(List ref03_Pipe)→Int→Option ((List Int)×Bool)
  | 0,_,_=>none
  | n+1,a0,a1=>Dr F p0 p1 p2 x9 (C2 F p0 p1 p2 x9 n) a0 a1
def Du (F:Nat) (p0:(List api_Span)) (p1:(List api_Span)) (p2:Int) (x9:Int) (a0:(List ref03_Pipe)):Option ((List Int)×Bool) :=
  C2 F p0 p1 p2 x9 F a0 0
def Ds (F:Nat) (p0:(List api_Span)) (p1:(List api_Span)) (p2:Int) (x9:Int) (k7:((List ref03_Pipe)→Int→Option ((List Int)×Bool))) (a1:(List ref03_Pipe)) (a0:Int):Option ((List Int)×Bool) :=
  bif (decide (a0<p2)) then ((ck (((p0.length:Nat):Int)+((p1.length:Nat):Int))).bind fun a3 =>
  (ck (a3+a0)).bind fun a4 =>
  (Gn a0 ((p1.length:Nat):Int)).bind fun a5 =>
  (ck (((p0.length:Nat):Int)+a5)).bind fun a6 =>
  (apd 32 a1 ([(ref03_Pipe.mk a4 a6 (api_Span.mk 0 1073741824))])).bind fun a2 =>
  (ck (a0+1)).bind fun a7 =>
  k7 a2 a7) else (Du F p0 p1 p2 x9 a1)
def C3 (F:Nat) (p0:(List api_Span)) (p1:(List api_Span)) (p2:Int) (x9:Int):Nat→(List ref03_Pipe)→Int→Option ((List Int)×Bool)
  | 0,_,_=>none
  | n+1,a0,a1=>Ds F p0 p1 p2 x9 (C3 F p0 p1 p2 x9 n) a0 a1
def Cj (F:Nat) (p0:(List api_Span)) (p1:(List api_Span)) (p2:Int) (x9:Int) (a0:(List ref03_Pipe)):Option ((List Int)×Bool) :=
  C3 F p0 p1 p2 x9 F a0 0
def Cl (p0:(List api_Span)) (p1:(List api_Span)) (a1:(List ref03_Pipe)) (a0:Int) (k8:((List ref03_Pipe)→Int→Option ((List Int)×Bool))) (a3:Int) (a4:Int):Option ((List Int)×Bool) :=
  (Gn a0 ((p0.length:Nat):Int)).bind fun a5 =>
  (ck (((p0.length:Nat):Int)+((p1.length:Nat):Int))).bind fun a6 =>
  (ck (a6+a0)).bind fun a7 =>
  (apd 32 a1 ([(ref03_Pipe.mk a5 a7 (api_Span.mk a3 a4))])).bind fun a2 =>
  (ck (a0+1)).bind fun a8 =>
  k8 a2 a8
def Dt (F:Nat) (p0:(List api_Span)) (p1:(List api_Span)) (p2:Int) (p3:Int) (p4:api_Span) (x9:Int) (k8:((List ref03_Pipe)→Int→Option ((List Int)×Bool))) (a1:(List ref03_Pipe)) (a0:Int):Option ((List Int)×Bool) :=
  bif (decide (a0<p2)) then (bif (a0==p3) then (Cl p0 p1 a1 a0 k8 p4.Lo p4.Hi) else (Cl p0 p1 a1 a0 k8 0 1073741824)) else (Cj F p0 p1 p2 x9 a1)
def Bl (F:Nat) (p0:(List api_Span)) (p1:(List api_Span)) (p2:Int) (p3:Int) (p4:api_Span) (x9:Int):Nat→(List ref03_Pipe)→Int→Option ((List Int)×Bool)
  | 0,_,_=>none
  | n+1,a0,a1=>Dt F p0 p1 p2 p3 p4 x9 (Bl F p0 p1 p2 p3 p4 x9 n) a0 a1
def Bp (F:Nat) (p0:(List api_Span)) (p1:(List api_Span)) (p2:Int) (p3:Int) (p4:api_Span):Option ((List Int)×Bool) :=
  (ck (((p0.length:Nat):Int)+((p1.length:Nat):Int))).bind fun x8 =>
  (ck (x8+p2)).bind fun x9 =>
  Bl F p0 p1 p2 p3 p4 x9 F ([]) 0
def H2 (a0:(List api_Span)):Option ((List api_Span)×Int) :=
  some (a0,0)
def Fs (a1:Int) (k2:(Int→(List api_Span)→Option ((List api_Span)×Int))) (a0:(List api_Span)):Option ((List api_Span)×Int) :=
  (ck (a1+1)).bind fun a2 =>
  k2 a2 a0
def Eh (a2:Int) (a0:(List api_Span)) (k2:(Int→(List api_Span)→Option ((List api_Span)×Int))) (a3:Int) (a4:Int):Option ((List api_Span)×Int) :=
  (apd 16 a0 ([(api_Span.mk a4 a3)])).bind fun a1 =>
  Fs a2 k2 a1
def Fp (F:Nat) (p0:(List api_Span)) (p1:(List api_Span)) (p2:Int) (a3:Int) (a4:(List api_Span)) (k2:(Int→(List api_Span)→Option ((List api_Span)×Int))) (a5:Int) (k6:(Int→Int→Option ((List api_Span)×Int))) (a0:Int) (a1:Int):Option ((List api_Span)×Int) :=
  bif (decide (a0<a1)) then ((ck (a1-a0)).bind fun a6 =>
  (X9 a6 2).bind fun a7 =>
  (ck (a0+a7)).bind fun a2 =>
  (Bp F p0 p1 p2 a3 (api_Span.mk 0 a2)).bind fun a9 =>
  bif a9.2 then (k6 a0 a2) else ((ck (a2+1)).bind fun a8 =>
  k6 a8 a1)) else (Eh a3 a4 k2 a5 a0)
def Dh (F:Nat) (p0:(List api_Span)) (p1:(List api_Span)) (p2:Int) (a1:Int) (a0:(List api_Span)) (k2:(Int→(List api_Span)→Option ((List api_Span)×Int))) (a2:Int):Nat→Int→Int→Option ((List api_Span)×Int)
  | 0,_,_=>none
  | n+1,a3,a4=>Fp F p0 p1 p2 a1 a0 k2 a2 (Dh F p0 p1 p2 a1 a0 k2 a2 n) a3 a4
def Eg (F:Nat) (p0:(List api_Span)) (p1:(List api_Span)) (p2:Int) (a0:Int) (a1:(List api_Span)) (k2:(Int→(List api_Span)→Option ((List api_Span)×Int))) (a4:((List Int)×Bool)) (a3:Int):Option ((List api_Span)×Int) :=
  (getI a4.1 a0).bind fun a2 =>
  Dh F p0 p1 p2 a0 a1 k2 a3 F 0 a2
def Fq (F:Nat) (p0:(List api_Span)) (p1:(List api_Span)) (p2:Int) (a5:Int) (a6:(List api_Span)) (k2:(Int→(List api_Span)→Option ((List api_Span)×Int))) (aA:((List Int)×Bool)) (a3:api_Span) (a4:api_Span) (k7:(Int→Int→Option ((List api_Span)×Int))) (a0:Int) (a1:Int):Option ((List api_Span)×Int) :=
  bif (decide (a0<a1)) then ((ck (a1-a0)).bind fun a7 =>
  (X9 a7 2).bind fun a8 =>
  (ck (a1-a8)).bind fun a2 =>
  (Bp F p0 p1 p2 a5 (api_Span.mk a2 (if a4.Hi<a3.Hi then a4.Hi else a3.Hi))).bind fun aB =>
  bif aB.2 then (k7 a2 a1) else ((ck (a2-1)).bind fun a9 =>
  k7 a0 a9)) else (Eg F p0 p1 p2 a5 a6 k2 aA a0)
def Di (F:Nat) (p0:(List api_Span)) (p1:(List api_Span)) (p2:Int) (a3:Int) (a0:(List api_Span)) (k2:(Int→(List api_Span)→Option ((List api_Span)×Int))) (a4:((List Int)×Bool)) (a1:api_Span) (a2:api_Span):Nat→Int→Int→Option ((List api_Span)×Int)
  | 0,_,_=>none
  | n+1,a5,a6=>Fq F p0 p1 p2 a3 a0 k2 a4 a1 a2 (Di F p0 p1 p2 a3 a0 k2 a4 a1 a2 n) a5 a6
def Dg (F:Nat) (p0:(List api_Span)) (p1:(List api_Span)) (p2:Int) (k2:(Int→(List api_Span)→Option ((List api_Span)×Int))) (a0:Int) (a4:(List api_Span)):Option ((List api_Span)×Int) :=
  bif (decide (a0<p2)) then ((Bp F p0 p1 p2 (-1) (api_Span.mk 0 0)).bind fun a3 =>
  bif (!a3.2) then (some (([]:(List api_Span)),14)) else ((Gn a0 ((p0.length:Nat):Int)).bind fun a6 =>
  (getI p0 a6).bind fun a1 =>
  (Gn a0 ((p1.length:Nat):Int)).bind fun a7 =>
  (getI p1 a7).bind fun a2 =>
  (getI a3.1 a0).bind fun a5 =>
  Di F p0 p1 p2 a0 a4 k2 a3 a1 a2 F a5 (if a2.Hi<a1.Hi then a2.Hi else a1.Hi))) else (H2 a4)
def B8 (F:Nat) (p0:(List api_Span)) (p1:(List api_Span)) (p2:Int):Nat→Int→(List api_Span)→Option ((List api_Span)×Int)
  | 0,_,_=>none
  | n+1,a1,a0=>Dg F p0 p1 p2 (B8 F p0 p1 p2 n) a1 a0
def C9 (F:Nat) (p0:(List api_Span)) (p1:(List api_Span)) (p2:Int):Option ((List api_Span)×Int) :=
  (Cg F p0 p1 p2).bind fun y7 =>
  bif (y7 != 0) then (some (([]:(List api_Span)),y7)) else (B8 F p0 p1 p2 F 0 ([]))
def B5 (F:Nat) (p0:(List api_Span)) (p1:(List api_Span)) (p2:Int) (p3:Int) (p4:Int):Option Int :=
  (Cg F p0 p1 p2).bind fun y7 =>
  bif (y7 != 0) then (some y7) else (bif (bif (bif (bif (decide (p3<0)) then true else (decide (p3≥p2))) then true else (decide (p4<0))) then true else (decide (p4>1073741824))) then (some 3) else ((Bp F p0 p1 p2 p3 (api_Span.mk p4 p4)).bind fun y9 =>
  bif (!y9.2) then (some 14) else (some 0)))
structure arcP where
  to:Int
  room:Int
  twin:Int
  deriving Inhabited,DecidableEq
structure netP where
  fr:List (List Int)
  arcs:List arcP
structure tripP where
  net:netP
  need:Int
  e0:Int
  e1:Int
  gates:List Int
  lows:List Int
def Ks (n:netP) (u v room:Int):Option (netP×Int) :=
  if u=v then none else
  (getI n.fr u).bind fun ru=>(apd 8 ru [(n.arcs.length:Int)]).bind fun ru2 =>
  (getI n.fr v).bind fun rv=>(apd 8 rv [(n.arcs.length:Int)+1]).bind fun rv2 =>
  (B7 n.fr u ru2).bind fun f1=>(B7 f1 v rv2).bind fun f2 =>
  some (⟨f2,n.arcs++[⟨v,room,(n.arcs.length:Int)+1⟩,⟨u,0,(n.arcs.length:Int)⟩]⟩,(n.arcs.length:Int))
def Jm (t:tripP) (u v:Int) (s:api_Span):Option (tripP×Int) :=
  (ck (s.Hi-s.Lo)).bind fun d=>(Ks t.net u v d).bind fun r1 =>
  bif decide (s.Lo>0) then
    (Ks r1.1 t.e0 v s.Lo).bind fun r2=>(Ks r2.1 u t.e1 s.Lo).bind fun r3=>(ck (t.need+s.Lo)).bind fun z =>
    some ({ t with net:=r3.1,need:=z },r1.2)
  else some ({ t with net:=r1.1 },r1.2)
def Hj (t:tripP) (r:Int):Option Int :=
  (getI t.lows r).bind fun l=>(getI t.gates r).bind fun g=>(getI t.net.arcs g).bind fun x=>(getI t.net.arcs x.twin).bind fun y=>ck (l+y.room)
def R8 (A:List arcP) (but a:Int) (met:List Bool):Option (arcP×Bool) :=
  (getI A a).bind fun x =>
  (gd (decide (x.room>0)==true&&true) (getI met x.to) default).bind fun m =>
  (gd ((bif decide (x.room>0) then !m else false)==true&&true) (if but<0 then some true else (getI A but).bind fun y=>if 0≤y.twin∧y.twin<(A.length:Int) then some (!decide (a=but)&&!decide (a=y.twin)) else none) default).bind fun ok =>
  some (x,bif (bif decide (x.room>0) then !m else false) then ok else false)
def Jq (A:List arcP) (but:Int):List Int→List Bool→List Int→List Int→Option (List Bool×List Int×List Int)
  | [],met,«by»,todo=>some (met,«by»,todo)
  | a::l,met,«by»,todo=>(R8 A but a met).bind fun r=>bif r.2 then
      (B7 met r.1.to true).bind fun met2=>(B7 «by» r.1.to a).bind fun by2=>(apd 8 todo [r.1.to]).bind fun todo2=>Jq A but l met2 by2 todo2
    else Jq A but l met «by» todo
def Sp (n:netP) (but v:Int):Nat→List Bool→List Int→List Int→Option (List Bool×List Int)
  | 0,_,_,_=>none
  | F+1,met,«by»,todo=>(gd (decide ((todo.length:Int)>0)==true&&true) (getI met v) default).bind fun mv =>
    bif (bif decide ((todo.length:Int)>0) then !mv else false) then
      (getI todo 0).bind fun x=>(getI n.fr x).bind fun row=>(Jq n.arcs but row met «by» todo).bind fun s =>
      (Hp s.2.2 1 (s.2.2.length:Int)).bind fun todo2=>Sp n but v F s.1 s.2.1 todo2
    else some (met,«by»)
def H9 (A:List arcP) («by»:List Int) (x:Int):Option (Int×arcP×arcP) :=
  (getI «by» x).bind fun a=>(getI A a).bind fun y=>(getI A y.twin).bind fun z=>some (a,y,z)
def J9 (A:List arcP) («by»:List Int) (u:Int):Nat→Int→Int→Option Int
  | 0,_,_=>none
  | F+1,x,n=>bif x != u then (H9 A «by» x).bind fun r=>J9 A «by» u F r.2.2.to (if r.2.1.room<n then r.2.1.room else n) else some n
def H5 («by»:List Int) (u n:Int):Nat→Int→List arcP→Option (List arcP)
  | 0,_,_=>none
  | F+1,x,A=>bif x != u then (H9 A «by» x).bind fun r=>(ck (r.2.1.room-n)).bind fun d =>
      (B7 A r.1 { r.2.1 with room:=d }).bind fun A1=>(getI A1 r.2.1.twin).bind fun z=>(ck (z.room+n)).bind fun e =>
      (B7 A1 r.2.1.twin { z with room:=e }).bind fun A2=>(H9 A2 «by» x).bind fun q=>H5 «by» u n F q.2.2.to A2
    else some A
def Gd (F:Nat) (fr:List (List Int)) (u v most but:Int):Nat→Int→List arcP→Option (Int×List arcP)
  | 0,_,_=>none
  | G+1,total,A=>bif decide (total<most) then
      (mkI 8 (fr.length:Int) (-1:Int)).bind fun by0=>(mkI 1 (fr.length:Int) false).bind fun met0=>(B7 met0 u true).bind fun met1 =>
      (Sp ⟨fr,A⟩ but v F met1 by0 [u]).bind fun s=>(getI s.1 v).bind fun mv =>
      bif !mv then some (total,A) else
      (ck (most-total)).bind fun n0=>(J9 A s.2 u F v n0).bind fun n=>(H5 s.2 u n F v A).bind fun A2=>(ck (total+n)).bind fun total2 =>
      Gd F fr u v most but G total2 A2
    else some (total,A)
def Kx (n m most gate:Int) (power:api_Span):Nat→Int→tripP→Option tripP
  | 0,_,_=>none
  | F+1,r,t=>bif decide (r<most) then
      (Gn r n).bind fun u=>(Gn r m).bind fun v0=>(ck (n+v0)).bind fun v =>
      (Jm t u v (bif r==gate then power else ⟨0,1073741824⟩)).bind fun q=>(apd 8 q.1.gates [q.2]).bind fun gs =>
      (apd 8 q.1.lows [(bif r==gate then power else ⟨0,1073741824⟩:api_Span).Lo]).bind fun ls =>
      (ck (r+1)).bind fun r2=>Kx n m most gate power F r2 { q.1 with gates:=gs,lows:=ls }
    else some t
def asP (c:Int):List api_Span→Int→tripP→Option tripP
  | [],_,t=>some t
  | s::l,i,t=>(Jm t c i s).bind fun q=>asP c l (i+1) q.1
def bsP (n c:Int):List api_Span→Int→tripP→Option tripP
  | [],_,t=>some t
  | s::l,i,t=>(ck (n+i)).bind fun u=>(Jm t u c s).bind fun q=>bsP n c l (i+1) q.1
def Hc (F:Nat) (a b:List api_Span) (most gate:Int) (power:api_Span):Option (tripP×Bool) :=
  (ck ((a.length:Int)+(b.length:Int))).bind fun nm=>(ck (nm+3)).bind fun k3=>(mkI 24 k3 ([]:List Int)).bind fun rows =>
  (ck (nm+1)).bind fun e0=>(ck (nm+2)).bind fun e1 =>
  (Kx (a.length:Int) (b.length:Int) most gate power F 0 ⟨⟨rows,[]⟩,0,e0,e1,[],[]⟩).bind fun t1 =>
  (asP nm a 0 t1).bind fun t2=>(bsP (a.length:Int) nm b 0 t2).bind fun t3 =>
  (Gd F t3.net.fr t3.e0 t3.e1 t3.need (-1) F 0 t3.net.arcs).bind fun r =>
  some ({ t3 with net:=⟨t3.net.fr,r.2⟩ },r.1==t3.need)
def Jl (F:Nat):List Int→Int→tripP→List api_Span→Option (List api_Span)
  | [],_,_,out=>some out
  | g::l,r,t,out =>
    (getI t.net.arcs g).bind fun x=>(getI t.net.arcs x.twin).bind fun y =>
    (Gd F t.net.fr x.to y.to x.room g F 0 t.net.arcs).bind fun q1 =>
    (getI q1.2 g).bind fun x1=>(getI q1.2 x1.twin).bind fun y1=>bif x1.twin==g then none else (ck (x1.room-q1.1)).bind fun d1=>(ck (y1.room+q1.1)).bind fun d2 =>
    (B7 q1.2 g { x1 with room:=d1 }).bind fun A1=>(getI A1 x1.twin).bind fun y2=>(B7 A1 x1.twin { y2 with room:=d2 }).bind fun A2 =>
    (Hj { t with net:=⟨t.net.fr,A2⟩ } r).bind fun hi =>
    (getI A2 g).bind fun x3=>(getI A2 x3.twin).bind fun y3 =>
    (Gd F t.net.fr y.to x.to y3.room g F 0 A2).bind fun q2 =>
    (getI q2.2 g).bind fun x4=>(getI q2.2 x4.twin).bind fun y4=>bif x4.twin==g then none else (ck (x4.room+q2.1)).bind fun d3=>(ck (y4.room-q2.1)).bind fun d4 =>
    (B7 q2.2 g { x4 with room:=d3 }).bind fun A3=>(getI A3 x4.twin).bind fun y5=>(B7 A3 x4.twin { y5 with room:=d4 }).bind fun A4 =>
    (Hj { t with net:=⟨t.net.fr,A4⟩ } r).bind fun lo=>(apd 16 out [⟨lo,hi⟩]).bind fun out2 =>
    Jl F l (r+1) { t with net:=⟨t.net.fr,A4⟩ } out2
def Cn (F:Nat) (p0 p1:List api_Span) (p2:Int):Option ((List api_Span)×Int) :=
  (Ci F p0 p1 p2).bind fun e=>bif e != 0 then some ([],e) else
  (Hc F p0 p1 p2 (-1) ⟨0,0⟩).bind fun t=>bif !t.2 then some ([],14) else
  (Jl F t.1.gates 0 t.1 []).bind fun out=>some (out,0)
def Gm (most:Int) (t:tripP):Nat→Int→List Int→Option (List Int)
  | 0,_,_=>none
  | F+1,r,out=>bif decide (r<most) then (Hj t r).bind fun p=>(apd 8 out [p]).bind fun out2=>(ck (r+1)).bind fun r2=>Gm most t F r2 out2 else some out
def Bc (F:Nat) (p0 p1:List api_Span) (p2 p3 p4:Int):Option ((List Int)×Int) :=
  (Ci F p0 p1 p2).bind fun e=>bif e != 0 then some ([],e) else
  bif (bif (bif (bif decide (p3<0) then true else decide (p3≥p2)) then true else decide (p4<0)) then true else decide (p4>1073741824)) then some ([],3) else
  (Hc F p0 p1 p2 p3 ⟨p4,p4⟩).bind fun t=>bif !t.2 then some ([],14) else
  (Gm p2 t.1 F 0 []).bind fun out=>some (out,0)
def D3 (F:Nat) (p0:(List api_Span)) (p1:(List api_Span)) (p2:Int) (p3:Int) (p4:Int):Option Bool :=
  (Gc F p0 p1 p2).bind fun y7 =>
  bif (!y7) then (some D8) else ((Cn F p0 p1 p2).bind fun y9 =>
  (C9 F p0 p1 p2).bind fun a1 =>
  (Fc F y9.1 a1.1).bind fun a2 =>
  bif (bif (!a2) then true else (y9.2 != a1.2)) then (some false) else ((Bc F p0 p1 p2 p3 p4).bind fun a0 =>
  (B5 F p0 p1 p2 p3 p4).bind fun a3 =>
  bif (a0.2 != a3) then (some false) else (bif (a0.2 != 0) then (some (bif (((a0.1.length:Nat):Int)==0) then D8 else false)) else ((gd (((((a0.1.length:Nat):Int)==p2)==true&&true)) (G2 F p0 p1 a0.1 p3 p4) default).bind fun a4 =>
  some (bif (bif (((a0.1.length:Nat):Int)==p2) then a4 else false) then D8 else false)))))
end Go.Proofs.Ytbhjgebjojdohaa
