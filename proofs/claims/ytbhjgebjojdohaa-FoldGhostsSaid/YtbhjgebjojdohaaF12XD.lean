import Derived.Test.YtbhjgebjojdohaaF12EB
namespace Go.Proofs.Ytbhjgebjojdohaa
open Go Go.RowKit Go.Eng
set_option maxRecDepth 10000
set_option maxHeartbeats 4000000
set_option linter.unusedVariables false
set_option linter.unusedSimpArgs false
structure api_Span where
  Lo:Int
  Hi:Int
  deriving Inhabited,DecidableEq
def api_Span.cells (x:api_Span):List Value:=[.int .i64 x.Lo,.int .i64 x.Hi]
theorem api_Span.cells_len (x:api_Span):(api_Span.cells x).length=2:=rfl
def Rp43:Rel (List api_Span):=fun μ cs x=>∃(ad1:Option Addr) (cap2:Nat),cs=[.slice ad1 x.length cap2]∧ArrM μ 2 api_Span.cells ad1 cap2 x
theorem Rp43.mono:Rel.Mono Rp43:=by
  intro μ ν cs x hle h;obtain ⟨ad1,cap2,rfl,f0⟩:=h;exact ⟨ad1,cap2,rfl,f0.mono hle⟩
def Ee:Bool:=true
def Dy (p2:Int):Option Int :=
  bif (bif (decide (p2<1)) then true else (decide (p2>800))) then (some 3) else (some 0)
def D6 (a0:Int) (k2:(Int→Option Int)):Option Int :=
  (ck (a0+1)).bind fun a1 =>
  k2 a1
def Dx (a3:Int) (k2:(Int→Option Int)) (a2:(List api_Span)) (k4:(Int→Option Int)) (a1:Int):Option Int :=
  bif (decide (a1<((a2.length:Nat):Int))) then ((getI a2 a1).bind fun a0 =>
  bif (bif (bif (decide (a0.Lo<0)) then true else (decide (a0.Lo>a0.Hi))) then true else (decide (a0.Hi>1073741824))) then (some 3) else ((ck (a1+1)).bind fun a4 =>
  k4 a4)) else (D6 a3 k2)
def Cs (a1:Int) (k2:(Int→Option Int)) (a0:(List api_Span)):Nat→Int→Option Int
  | 0,_=>none
  | n+1,a2=>Dx a1 k2 a0 (Cs a1 k2 a0 n) a2
def Cr (F:Nat) (p0:(List api_Span)) (p1:(List api_Span)) (p2:Int) (k2:(Int→Option Int)) (a1:Int):Option Int :=
  bif (decide (a1<((2:Nat):Int))) then ((getI ([p0,p1]) a1).bind fun a0 =>
  bif (bif (decide (((a0.length:Nat):Int)<1)) then true else (decide (((a0.length:Nat):Int)>200))) then (some 3) else (Cs a1 k2 a0 F 0)) else (Dy p2)
def Bn (F:Nat) (p0:(List api_Span)) (p1:(List api_Span)) (p2:Int):Nat→Int→Option Int
  | 0,_=>none
  | n+1,a0=>Cr F p0 p1 p2 (Bn F p0 p1 p2 n) a0
def Cg (F:Nat) (p0:(List api_Span)) (p1:(List api_Span)) (p2:Int):Option Int :=
  Bn F p0 p1 p2 F 0
def A5 (p0:Int) (p1:Int):api_Span :=
  (api_Span.mk p0 p1)
def Fc:Option Bool :=
  some true
def Eb (p0:(List api_Span)) (a2:(List Int)) (k3:(Int→Option Bool)) (a0:Int):Option Bool :=
  bif (decide (a0<((p0.length:Nat):Int))) then ((getI p0 a0).bind fun a1 =>
  (getI a2 a0).bind fun a3 =>
  (gd (((decide (a3<a1.Lo))==false&&true)) (getI a2 a0) default).bind fun a4 =>
  bif (bif (decide (a3<a1.Lo)) then true else (decide (a4>a1.Hi))) then (some false) else ((ck (a0+1)).bind fun a5 =>
  k3 a5)) else (Fc)
def Cy (p0:(List api_Span)) (a0:(List Int)):Nat→Int→Option Bool
  | 0,_=>none
  | n+1,a1=>Eb p0 a0 (Cy p0 a0 n) a1
def Dk (F:Nat) (p0:(List api_Span)) (a0:(List Int)):Option Bool :=
  Cy p0 a0 F 0
def Ec (F:Nat) (p0:(List api_Span)) (p1:(List Int)) (k4:(Int→(List Int)→Option Bool)) (a1:Int) (a0:(List Int)):Option Bool :=
  bif (decide (a1<((p1.length:Nat):Int))) then ((getI p1 a1).bind fun a2 =>
  bif (bif (decide (a2<0)) then true else (decide (a2>1073741824))) then (some false) else ((By a1 ((p0.length:Nat):Int)).bind fun a3 =>
  (getI a0 a3).bind fun a5 =>
  (ck (a5+a2)).bind fun a6 =>
  (getI a0 a3).bind fun a8 =>
  (Cb a0 a3 a6).bind fun a4 =>
  (ck (a1+1)).bind fun a7 =>
  k4 a7 a4)) else (Dk F p0 a0)
def Cz (F:Nat) (p0:(List api_Span)) (p1:(List Int)):Nat→Int→(List Int)→Option Bool
  | 0,_,_=>none
  | n+1,a1,a0=>Ec F p0 p1 (Cz F p0 p1 n) a1 a0
def D7 (F:Nat) (p0:(List api_Span)) (p1:(List Int)):Option Bool :=
  (mkI 8 ((p0.length:Nat):Int) 0).bind fun l8 =>
  Cz F p0 p1 F 0 l8
structure arcP where
  to:Int
  room:Int
  twin:Int
  deriving Inhabited,DecidableEq
structure netP where
  fr:List (List Int)
  arcs:List arcP
structure tripP where
  net:netP
  need:Int
  e0:Int
  e1:Int
  gates:List Int
  lows:List Int
def Ho (n:netP) (u v room:Int):Option (netP×Int) :=
  if u=v then none else
  (getI n.fr u).bind fun ru=>(apd 8 ru [(n.arcs.length:Int)]).bind fun ru2 =>
  (getI n.fr v).bind fun rv=>(apd 8 rv [(n.arcs.length:Int)+1]).bind fun rv2 =>
  (Cb n.fr u ru2).bind fun f1=>(Cb f1 v rv2).bind fun f2 =>
  some (⟨f2,n.arcs++[⟨v,room,(n.arcs.length:Int)+1⟩,⟨u,0,(n.arcs.length:Int)⟩]⟩,(n.arcs.length:Int))
def Gf (t:tripP) (u v:Int) (s:api_Span):Option (tripP×Int) :=
  (ck (s.Hi-s.Lo)).bind fun d=>(Ho t.net u v d).bind fun r1 =>
  bif decide (s.Lo>0) then
    (Ho r1.1 t.e0 v s.Lo).bind fun r2=>(Ho r2.1 u t.e1 s.Lo).bind fun r3=>(ck (t.need+s.Lo)).bind fun z =>
    some ({ t with net:=r3.1,need:=z },r1.2)
  else some ({ t with net:=r1.1 },r1.2)
def Fe (t:tripP) (r:Int):Option Int :=
  (getI t.lows r).bind fun l=>(getI t.gates r).bind fun g=>(getI t.net.arcs g).bind fun x=>(getI t.net.arcs x.twin).bind fun y=>ck (l+y.room)
def Nt (A:List arcP) (but a:Int) (met:List Bool):Option (arcP×Bool) :=
  (getI A a).bind fun x =>
  (gd (decide (x.room>0)==true&&true) (getI met x.to) default).bind fun m =>
  (gd ((bif decide (x.room>0) then !m else false)==true&&true) (if but<0 then some true else (getI A but).bind fun y=>if 0≤y.twin∧y.twin<(A.length:Int) then some (!decide (a=but)&&!decide (a=y.twin)) else none) default).bind fun ok =>
  some (x,bif (bif decide (x.room>0) then !m else false) then ok else false)
def Gi (A:List arcP) (but:Int):List Int→List Bool→List Int→List Int→Option (List Bool×List Int×List Int)
  | [],met,«by»,todo=>some (met,«by»,todo)
  | a::l,met,«by»,todo=>(Nt A but a met).bind fun r=>bif r.2 then
      (Cb met r.1.to true).bind fun met2=>(Cb «by» r.1.to a).bind fun by2=>(apd 8 todo [r.1.to]).bind fun todo2=>Gi A but l met2 by2 todo2
    else Gi A but l met «by» todo
def Q2 (n:netP) (but v:Int):Nat→List Bool→List Int→List Int→Option (List Bool×List Int)
  | 0,_,_,_=>none
  | F+1,met,«by»,todo=>(gd (decide ((todo.length:Int)>0)==true&&true) (getI met v) default).bind fun mv =>
    bif (bif decide ((todo.length:Int)>0) then !mv else false) then
      (getI todo 0).bind fun x=>(getI n.fr x).bind fun row=>(Gi n.arcs but row met «by» todo).bind fun s =>
      (Nz s.2.2 1 (s.2.2.length:Int)).bind fun todo2=>Q2 n but v F s.1 s.2.1 todo2
    else some (met,«by»)
def F6 (A:List arcP) («by»:List Int) (x:Int):Option (Int×arcP×arcP) :=
  (getI «by» x).bind fun a=>(getI A a).bind fun y=>(getI A y.twin).bind fun z=>some (a,y,z)
def G1 (A:List arcP) («by»:List Int) (u:Int):Nat→Int→Int→Option Int
  | 0,_,_=>none
  | F+1,x,n=>bif x != u then (F6 A «by» x).bind fun r=>G1 A «by» u F r.2.2.to (if r.2.1.room<n then r.2.1.room else n) else some n
def F1 («by»:List Int) (u n:Int):Nat→Int→List arcP→Option (List arcP)
  | 0,_,_=>none
  | F+1,x,A=>bif x != u then (F6 A «by» x).bind fun r=>(ck (r.2.1.room-n)).bind fun d =>
      (Cb A r.1 { r.2.1 with room:=d }).bind fun A1=>(getI A1 r.2.1.twin).bind fun z=>(ck (z.room+n)).bind fun e =>
      (Cb A1 r.2.1.twin { z with room:=e }).bind fun A2=>(F6 A2 «by» x).bind fun q=>F1 «by» u n F q.2.2.to A2
    else some A
def Ef (F:Nat) (fr:List (List Int)) (u v most but:Int):Nat→Int→List arcP→Option (Int×List arcP)
  | 0,_,_=>none
  | G+1,total,A=>bif decide (total<most) then
      (mkI 8 (fr.length:Int) (-1:Int)).bind fun by0=>(mkI 1 (fr.length:Int) false).bind fun met0=>(Cb met0 u true).bind fun met1 =>
      (Q2 ⟨fr,A⟩ but v F met1 by0 [u]).bind fun s=>(getI s.1 v).bind fun mv =>
      bif !mv then some (total,A) else
      (ck (most-total)).bind fun n0=>(G1 A s.2 u F v n0).bind fun n=>(F1 s.2 u n F v A).bind fun A2=>(ck (total+n)).bind fun total2 =>
      Ef F fr u v most but G total2 A2
    else some (total,A)
def Hx (n m most gate:Int) (power:api_Span):Nat→Int→tripP→Option tripP
  | 0,_,_=>none
  | F+1,r,t=>bif decide (r<most) then
      (By r n).bind fun u=>(By r m).bind fun v0=>(ck (n+v0)).bind fun v =>
      (Gf t u v (bif r==gate then power else ⟨0,1073741824⟩)).bind fun q=>(apd 8 q.1.gates [q.2]).bind fun gs =>
      (apd 8 q.1.lows [(bif r==gate then power else ⟨0,1073741824⟩:api_Span).Lo]).bind fun ls =>
      (ck (r+1)).bind fun r2=>Hx n m most gate power F r2 { q.1 with gates:=gs,lows:=ls }
    else some t
def asP (c:Int):List api_Span→Int→tripP→Option tripP
  | [],_,t=>some t
  | s::l,i,t=>(Gf t c i s).bind fun q=>asP c l (i+1) q.1
def bsP (n c:Int):List api_Span→Int→tripP→Option tripP
  | [],_,t=>some t
  | s::l,i,t=>(ck (n+i)).bind fun u=>(Gf t u c s).bind fun q=>bsP n c l (i+1) q.1
def F7 (F:Nat) (a b:List api_Span) (most gate:Int) (power:api_Span):Option (tripP×Bool) :=
  (ck ((a.length:Int)+(b.length:Int))).bind fun nm=>(ck (nm+3)).bind fun k3=>(mkI 24 k3 ([]:List Int)).bind fun rows =>
  (ck (nm+1)).bind fun e0=>(ck (nm+2)).bind fun e1 =>
  (Hx (a.length:Int) (b.length:Int) most gate power F 0 ⟨⟨rows,[]⟩,0,e0,e1,[],[]⟩).bind fun t1 =>
  (asP nm a 0 t1).bind fun t2=>(bsP (a.length:Int) nm b 0 t2).bind fun t3 =>
  (Ef F t3.net.fr t3.e0 t3.e1 t3.need (-1) F 0 t3.net.arcs).bind fun r =>
  some ({ t3 with net:=⟨t3.net.fr,r.2⟩ },r.1==t3.need)
def Gb (F:Nat):List Int→Int→tripP→List api_Span→Option (List api_Span)
  | [],_,_,out=>some out
  | g::l,r,t,out =>
    (getI t.net.arcs g).bind fun x=>(getI t.net.arcs x.twin).bind fun y =>
    (Ef F t.net.fr x.to y.to x.room g F 0 t.net.arcs).bind fun q1 =>
    (getI q1.2 g).bind fun x1=>(getI q1.2 x1.twin).bind fun y1=>bif x1.twin==g then none else (ck (x1.room-q1.1)).bind fun d1=>(ck (y1.room+q1.1)).bind fun d2 =>
    (Cb q1.2 g { x1 with room:=d1 }).bind fun A1=>(getI A1 x1.twin).bind fun y2=>(Cb A1 x1.twin { y2 with room:=d2 }).bind fun A2 =>
    (Fe { t with net:=⟨t.net.fr,A2⟩ } r).bind fun hi =>
    (getI A2 g).bind fun x3=>(getI A2 x3.twin).bind fun y3 =>
    (Ef F t.net.fr y.to x.to y3.room g F 0 A2).bind fun q2 =>
    (getI q2.2 g).bind fun x4=>(getI q2.2 x4.twin).bind fun y4=>bif x4.twin==g then none else (ck (x4.room+q2.1)).bind fun d3=>(ck (y4.room-q2.1)).bind fun d4 =>
    (Cb q2.2 g { x4 with room:=d3 }).bind fun A3=>(getI A3 x4.twin).bind fun y5=>(Cb A3 x4.twin { y5 with room:=d4 }).bind fun A4 =>
    (Fe { t with net:=⟨t.net.fr,A4⟩ } r).bind fun lo=>(apd 16 out [⟨lo,hi⟩]).bind fun out2 =>
    Gb F l (r+1) { t with net:=⟨t.net.fr,A4⟩ } out2
def D5 (F:Nat) (p0 p1:List api_Span) (p2:Int):Option ((List api_Span)×Int) :=
  (Cg F p0 p1 p2).bind fun e=>bif e != 0 then some ([],e) else
  (F7 F p0 p1 p2 (-1) ⟨0,0⟩).bind fun t=>bif !t.2 then some ([],14) else
  (Gb F t.1.gates 0 t.1 []).bind fun out=>some (out,0)
def Em (most:Int) (t:tripP):Nat→Int→List Int→Option (List Int)
  | 0,_,_=>none
  | F+1,r,out=>bif decide (r<most) then (Fe t r).bind fun p=>(apd 8 out [p]).bind fun out2=>(ck (r+1)).bind fun r2=>Em most t F r2 out2 else some out
def Bm (F:Nat) (p0 p1:List api_Span) (p2 p3 p4:Int):Option ((List Int)×Int) :=
  (Cg F p0 p1 p2).bind fun e=>bif e != 0 then some ([],e) else
  bif (bif (bif (bif decide (p3<0) then true else decide (p3≥p2)) then true else decide (p4<0)) then true else decide (p4>1073741824)) then some ([],3) else
  (F7 F p0 p1 p2 p3 ⟨p4,p4⟩).bind fun t=>bif !t.2 then some ([],14) else
  (Em p2 t.1 F 0 []).bind fun out=>some (out,0)
def De:Option Bool :=
  some Ee
def Cq (a0:Int) (k3:(Int→Option Bool)):Option Bool :=
  (ck (a0+1)).bind fun a1 =>
  k3 a1
def Bs (F:Nat) (p1:(List Int)) (a0:(List api_Span)) (a1:(List api_Span)) (a3:Int) (a4:Int) (k6:(Int→Option Bool)) (a2:Int) (a5:Int):Option Bool :=
  (Bm F a0 a1 ((p1.length:Nat):Int) a3 a2).bind fun a7 =>
  bif (a7.2 != a5) then (some false) else ((ck (a4+1)).bind fun a6 =>
  k6 a6)
def Bq (F:Nat) (p1:(List Int)) (a3:(List api_Span)) (a4:(List api_Span)) (a2:Int) (k3:(Int→Option Bool)) (a5:Int) (a6:Int) (k6:(Int→Option Bool)) (a0:Int):Option Bool :=
  bif (decide (a0<((2:Nat):Int))) then ((getI ([a5,a6]) a0).bind fun a1 =>
  bif (decide (a1<0)) then (Bs F p1 a3 a4 a2 a0 k6 a1 3) else (Bs F p1 a3 a4 a2 a0 k6 a1 14)) else (Cq a2 k3)
def Az (F:Nat) (p1:(List Int)) (a0:(List api_Span)) (a1:(List api_Span)) (a2:Int) (k3:(Int→Option Bool)) (a3:Int) (a4:Int):Nat→Int→Option Bool
  | 0,_=>none
  | n+1,a5=>Bq F p1 a0 a1 a2 k3 a3 a4 (Az F p1 a0 a1 a2 k3 a3 a4 n) a5
def C8 (F:Nat) (p1:(List Int)) (a1:(List api_Span)) (a2:(List api_Span)) (a3:Int) (k3:(Int→Option Bool)) (a0:api_Span):Option Bool :=
  (ck (a0.Lo-1)).bind fun a4 =>
  (ck (a0.Hi+1)).bind fun a5 =>
  Az F p1 a1 a2 a3 k3 a4 a5 F 0
def Br (F:Nat) (p1:(List Int)) (a2:(List api_Span)) (a3:(List api_Span)) (a6:Int) (k3:(Int→Option Bool)) (a4:api_Span) (a9:Int) (k8:(Int→Option Bool)) (a7:Int):Option Bool :=
  bif (decide (a7<((3:Nat):Int))) then ((getI ([a4.Lo,a9,a4.Hi]) a7).bind fun a1 =>
  (Bm F a2 a3 ((p1.length:Nat):Int) a6 a1).bind fun a0 =>
  (gd (((bif (a0.2 != 0) then true else (((a0.1.length:Nat):Int) != ((p1.length:Nat):Int)))==false&&true)) (getI a0.1 a6) default).bind fun a5 =>
  (gd (((bif (bif (a0.2 != 0) then true else (((a0.1.length:Nat):Int) != ((p1.length:Nat):Int))) then true else (a5 != a1))==false&&true)) (D7 F a2 a0.1) default).bind fun a8 =>
  (gd (((bif (bif (bif (a0.2 != 0) then true else (((a0.1.length:Nat):Int) != ((p1.length:Nat):Int))) then true else (a5 != a1)) then true else (!a8))==false&&true)) (D7 F a3 a0.1) default).bind fun aB =>
  bif (bif (bif (bif (bif (a0.2 != 0) then true else (((a0.1.length:Nat):Int) != ((p1.length:Nat):Int))) then true else (a5 != a1)) then true else (!a8)) then true else (!aB)) then (some false) else ((ck (a7+1)).bind fun aA =>
  k8 aA)) else (C8 F p1 a2 a3 a6 k3 a4)
def Ao (F:Nat) (p1:(List Int)) (a0:(List api_Span)) (a1:(List api_Span)) (a3:Int) (k3:(Int→Option Bool)) (a2:api_Span) (a4:Int):Nat→Int→Option Bool
  | 0,_=>none
  | n+1,a5=>Br F p1 a0 a1 a3 k3 a2 a4 (Ao F p1 a0 a1 a3 k3 a2 a4 n) a5
def Cp (F:Nat) (p1:(List Int)) (a6:(List api_Span)) (a7:(List api_Span)) (a4:((List api_Span)×Int)) (a5:((List api_Span)×Int)) (k3:(Int→Option Bool)) (a1:Int):Option Bool :=
  bif (decide (a1<((a4.1.length:Nat):Int))) then ((getI a4.1 a1).bind fun a0 =>
  (getI p1 a1).bind fun a8 =>
  (ck a8).bind fun aA =>
  (By aA 50).bind fun a2 =>
  (gd (((bif (decide (a2<a0.Lo)) then true else (decide (a2>a0.Hi)))==false&&true)) (getI a5.1 a1) default).bind fun a3 =>
  (gd (((bif (bif (decide (a2<a0.Lo)) then true else (decide (a2>a0.Hi))) then true else (decide (a0.Lo<a3.Lo)))==false&&true)) (getI a5.1 a1) default).bind fun a9 =>
  bif (bif (bif (bif (decide (a2<a0.Lo)) then true else (decide (a2>a0.Hi))) then true else (decide (a0.Lo<a3.Lo))) then true else (decide (a0.Hi>a9.Hi))) then (some false) else ((ck (a0.Lo+a0.Hi)).bind fun aB =>
  (W6 aB 2).bind fun aC =>
  Ao F p1 a6 a7 a1 k3 a0 aC F 0)) else (De)
def Bu (F:Nat) (p1:(List Int)) (a0:(List api_Span)) (a1:(List api_Span)) (a2:((List api_Span)×Int)) (a3:((List api_Span)×Int)):Nat→Int→Option Bool
  | 0,_=>none
  | n+1,a4=>Cp F p1 a0 a1 a2 a3 (Bu F p1 a0 a1 a2 a3 n) a4
def C7 (F:Nat) (p1:(List Int)) (a2:(List api_Span)) (a3:(List api_Span)) (a4:(List api_Span)) (a5:(List api_Span)):Option Bool :=
  (D5 F a2 a3 ((p1.length:Nat):Int)).bind fun a0 =>
  (D5 F a4 a5 ((p1.length:Nat):Int)).bind fun a1 =>
  bif (bif (bif (bif (a0.2 != 0) then true else (a1.2 != 0)) then true else (((a0.1.length:Nat):Int) != ((p1.length:Nat):Int))) then true else (((a1.1.length:Nat):Int) != ((p1.length:Nat):Int))) then (some false) else (Bu F p1 a2 a3 a0 a1 F 0)
def Bf (F:Nat) (p1:(List Int)) (a0:(List api_Span)) (a1:(List api_Span)) (a2:(List api_Span)) (a3:(List api_Span)):Option Bool :=
  C7 F p1 a0 a2 a1 a3
def Bg (a5:(List api_Span)) (a6:(List api_Span)) (a0:Int) (a4:((List api_Span)→(List api_Span)→Int→Option Bool)) (a1:Int) (a2:Int):Option Bool :=
  (ck (a1-a0)).bind fun a3 =>
  (ck (a2+a0)).bind fun a9 =>
  (ck (a9+1)).bind fun aA =>
  (apd 16 a5 ([(A5 a1 a2)])).bind fun a7 =>
  (apd 16 a6 ([(A5 (if a3>0 then a3 else 0) aA)])).bind fun a8 =>
  (ck (a0+1)).bind fun aB =>
  a4 a7 a8 aB
def B3 (p3:(List Int)) (a2:(List api_Span)) (a3:(List api_Span)) (a0:Int) (a1:((List api_Span)→(List api_Span)→Int→Option Bool)) (a4:Int) (a5:Int):Option Bool :=
  bif (decide (((p3.length:Nat):Int)>0)) then ((ck (a0+1)).bind fun a7 =>
  (By a7 ((p3.length:Nat):Int)).bind fun a8 =>
  (getI p3 a8).bind fun a6 =>
  (ck a6).bind fun a9 =>
  (By a9 20).bind fun aA =>
  (ck (a4+aA)).bind fun aB =>
  Bg a2 a3 a0 a1 a5 aB) else (Bg a2 a3 a0 a1 a5 a4)
def Ch (F:Nat) (p1:(List Int)) (p2:(List Int)) (p3:(List Int)) (a7:(List api_Span)) (a8:(List api_Span)) (a5:(List Int)) (a4:((List api_Span)→(List api_Span)→Int→Option Bool)) (a2:(List api_Span)) (a3:(List api_Span)) (a0:Int):Option Bool :=
  bif (decide (a0<((a5.length:Nat):Int))) then ((getI a5 a0).bind fun a1 =>
  bif (decide (((p2.length:Nat):Int)>0)) then ((ck (a0+1)).bind fun aA =>
  (By aA ((p2.length:Nat):Int)).bind fun aB =>
  (getI p2 aB).bind fun a9 =>
  (ck a9).bind fun aC =>
  (By aC 20).bind fun aD =>
  (ck (a1-aD)).bind fun a6 =>
  B3 p3 a2 a3 a0 a4 a1 (if a6>0 then a6 else 0)) else (B3 p3 a2 a3 a0 a4 a1 a1)) else (Bf F p1 a7 a8 a2 a3)
def Aw (F:Nat) (p1:(List Int)) (p2:(List Int)) (p3:(List Int)) (a0:(List api_Span)) (a1:(List api_Span)) (a2:(List Int)):Nat→(List api_Span)→(List api_Span)→Int→Option Bool
  | 0,_,_,_=>none
  | n+1,a3,a4,a5=>Ch F p1 p2 p3 a0 a1 a2 (Aw F p1 p2 p3 a0 a1 a2 n) a3 a4 a5
def C3 (F:Nat) (p1:(List Int)) (p2:(List Int)) (p3:(List Int)) (a0:(List api_Span)) (a1:(List api_Span)) (a2:(List Int)):Option Bool :=
  Aw F p1 p2 p3 a0 a1 a2 F ([]) ([]) 0
def Ci (F:Nat) (p1:(List Int)) (p2:(List Int)) (p3:(List Int)) (a4:(List api_Span)) (a5:(List api_Span)) (a9:Int) (a3:((List Int)→Int→Option Bool)) (a0:(List Int)) (a1:Int):Option Bool :=
  bif (decide (a1<((p1.length:Nat):Int))) then ((getI p1 a1).bind fun a7 =>
  (By a1 a9).bind fun a2 =>
  (getI a0 a2).bind fun a8 =>
  (ck a7).bind fun aA =>
  (By aA 50).bind fun aB =>
  (ck (a8+aB)).bind fun aC =>
  (getI a0 a2).bind fun aE =>
  (Cb a0 a2 aC).bind fun a6 =>
  (ck (a1+1)).bind fun aD =>
  a3 a6 aD) else (C3 F p1 p2 p3 a4 a5 a0)
def Bi (F:Nat) (p1:(List Int)) (p2:(List Int)) (p3:(List Int)) (a0:(List api_Span)) (a1:(List api_Span)) (a2:Int):Nat→(List Int)→Int→Option Bool
  | 0,_,_=>none
  | n+1,a3,a4=>Ci F p1 p2 p3 a0 a1 a2 (Bi F p1 p2 p3 a0 a1 a2 n) a3 a4
def Bt (F:Nat) (p0:(Int×Int)) (p1:(List Int)) (p2:(List Int)) (p3:(List Int)) (a1:(List api_Span)) (a2:(List api_Span)):Option Bool :=
  (ck p0.2).bind fun a4 =>
  (By a4 5).bind fun a5 =>
  (ck (1+a5)).bind fun a0 =>
  (mkI 8 a0 0).bind fun a3 =>
  Bi F p1 p2 p3 a1 a2 a0 F a3 0
def Bh (a5:(List api_Span)) (a6:(List api_Span)) (a0:Int) (a4:((List api_Span)→(List api_Span)→Int→Option Bool)) (a1:Int) (a2:Int):Option Bool :=
  (ck (a1-a0)).bind fun a3 =>
  (ck (a2+a0)).bind fun a9 =>
  (ck (a9+0)).bind fun aA =>
  (apd 16 a5 ([(A5 a1 a2)])).bind fun a7 =>
  (apd 16 a6 ([(A5 (if a3>0 then a3 else 0) aA)])).bind fun a8 =>
  (ck (a0+1)).bind fun aB =>
  a4 a7 a8 aB
def B4 (p3:(List Int)) (a2:(List api_Span)) (a3:(List api_Span)) (a0:Int) (a1:((List api_Span)→(List api_Span)→Int→Option Bool)) (a4:Int) (a5:Int):Option Bool :=
  bif (decide (((p3.length:Nat):Int)>0)) then ((ck (a0+0)).bind fun a7 =>
  (By a7 ((p3.length:Nat):Int)).bind fun a8 =>
  (getI p3 a8).bind fun a6 =>
  (ck a6).bind fun a9 =>
  (By a9 20).bind fun aA =>
  (ck (a4+aA)).bind fun aB =>
  Bh a2 a3 a0 a1 a5 aB) else (Bh a2 a3 a0 a1 a5 a4)
def Cj (F:Nat) (p0:(Int×Int)) (p1:(List Int)) (p2:(List Int)) (p3:(List Int)) (a5:(List Int)) (a4:((List api_Span)→(List api_Span)→Int→Option Bool)) (a2:(List api_Span)) (a3:(List api_Span)) (a0:Int):Option Bool :=
  bif (decide (a0<((a5.length:Nat):Int))) then ((getI a5 a0).bind fun a1 =>
  bif (decide (((p2.length:Nat):Int)>0)) then ((ck (a0+0)).bind fun a8 =>
  (By a8 ((p2.length:Nat):Int)).bind fun a9 =>
  (getI p2 a9).bind fun a7 =>
  (ck a7).bind fun aA =>
  (By aA 20).bind fun aB =>
  (ck (a1-aB)).bind fun a6 =>
  B4 p3 a2 a3 a0 a4 a1 (if a6>0 then a6 else 0)) else (B4 p3 a2 a3 a0 a4 a1 a1)) else (Bt F p0 p1 p2 p3 a2 a3)
def Ax (F:Nat) (p0:(Int×Int)) (p1:(List Int)) (p2:(List Int)) (p3:(List Int)) (a0:(List Int)):Nat→(List api_Span)→(List api_Span)→Int→Option Bool
  | 0,_,_,_=>none
  | n+1,a1,a2,a3=>Cj F p0 p1 p2 p3 a0 (Ax F p0 p1 p2 p3 a0 n) a1 a2 a3
def C4 (F:Nat) (p0:(Int×Int)) (p1:(List Int)) (p2:(List Int)) (p3:(List Int)) (a0:(List Int)):Option Bool :=
  Ax F p0 p1 p2 p3 a0 F ([]) ([]) 0
def Ck (F:Nat) (p0:(Int×Int)) (p1:(List Int)) (p2:(List Int)) (p3:(List Int)) (a7:Int) (a3:((List Int)→Int→Option Bool)) (a0:(List Int)) (a1:Int):Option Bool :=
  bif (decide (a1<((p1.length:Nat):Int))) then ((getI p1 a1).bind fun a5 =>
  (By a1 a7).bind fun a2 =>
  (getI a0 a2).bind fun a6 =>
  (ck a5).bind fun a8 =>
  (By a8 50).bind fun a9 =>
  (ck (a6+a9)).bind fun aA =>
  (getI a0 a2).bind fun aC =>
  (Cb a0 a2 aA).bind fun a4 =>
  (ck (a1+1)).bind fun aB =>
  a3 a4 aB) else (C4 F p0 p1 p2 p3 a0)
def Bj (F:Nat) (p0:(Int×Int)) (p1:(List Int)) (p2:(List Int)) (p3:(List Int)) (a0:Int):Nat→(List Int)→Int→Option Bool
  | 0,_,_=>none
  | n+1,a1,a2=>Ck F p0 p1 p2 p3 a0 (Bj F p0 p1 p2 p3 a0 n) a1 a2
def Cu (F:Nat) (p0:(Int×Int)) (p1:(List Int)) (p2:(List Int)) (p3:(List Int)):Option Bool :=
  bif (bif (decide (((p1.length:Nat):Int)<1)) then true else (decide (((p1.length:Nat):Int)>10))) then (some Ee) else ((ck p0.1).bind fun a2 =>
  (By a2 5).bind fun a3 =>
  (ck (1+a3)).bind fun a0 =>
  (mkI 8 a0 0).bind fun a1 =>
  Bj F p0 p1 p2 p3 a0 F a1 0)
end Go.Proofs.Ytbhjgebjojdohaa
