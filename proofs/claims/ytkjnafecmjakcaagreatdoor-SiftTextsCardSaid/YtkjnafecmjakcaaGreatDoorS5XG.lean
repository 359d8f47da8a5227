import Derived.Test.YtkjnafecmjakcaaGreatDoorS5XD
set_option linter.unusedVariables false
set_option linter.unusedSimpArgs false
set_option linter.unusedSectionVars false
namespace Go.Proofs.YtkjnafecmjakcaaGreatDoor
open Go Go.RowKit Go.Eng
set_option maxRecDepth 10000
set_option linter.unusedVariables false
set_option linter.unusedSimpArgs false
theorem ckb {β:Type} {x:Int} {f:Int→Option β} (h:-9000000000000000000≤x∧x≤9000000000000000000):(ck x).bind f=f x:=by
 unfold ck;rw [if_pos (by omega)];rfl
theorem gdT {α:Type} {g:Bool} {o:Option α} {d:α} (h:g=true):gd g o d=o:=by subst h;rfl
theorem Bx {α:Type} {c:Bool} {x y:α} (h:c=true):(bif c then x else y)=x:=by rw [h];rfl
theorem An {α:Type} {c:Bool} {x y:α} (h:c=false):(bif c then x else y)=y:=by rw [h];rfl
theorem sbd {α β:Type} {x:α} {f:α→Option β}:(some x).bind f=f x:=rfl
theorem dT {p:Prop} [Decidable p] (h:p):decide p=true:=decide_eq_true h
theorem dF {p:Prop} [Decidable p] (h:¬p):decide p=false:=decide_eq_false h
theorem Hs {α β:Type} {l:List α} {i:Int} {f:α→Option β} (n:Nat) (x:α) (hi:i=(n:Int)) (h:l[n]? = some x):(B5 l i).bind f=f x:=by
 subst hi;unfold B5;rw [if_pos (by omega),show ((n:Int)).toNat=n by omega,h];rfl
theorem Xy {α β:Type} {x:α} {l:List α} {f:α→Option β}:(B5 (x::l) 0).bind f=f x:=Hs 0 x rfl rfl
theorem A6w {α β:Type} {x y:α} {l:List α} {f:α→Option β}:(B5 (x::y::l) 1).bind f=f y:=Hs 1 y rfl rfl
inductive T where
 | leaf (op v:Int)
 | un (op r g:Int) (a:T)
 | bin (op:Int) (a b:T)
 deriving DecidableEq,Inhabited
def T.op:T→Int
 | .leaf op _=>op
 | .un op _ _ _=>op
 | .bin op _ _=>op
def T.node:T→sift_Node
 | .leaf op v=>⟨op,v,0,0,[]⟩
 | .un op r g a=>⟨op,0,r,g,[a.node]⟩
 | .bin op a b=>⟨op,0,0,0,[a.node,b.node]⟩
def T.size:T→Nat
 | .leaf _ _=>1
 | .un _ _ _ a=>1+a.size
 | .bin _ a b=>1+a.size+b.size
def T.depth:T→Nat
 | .leaf _ _=>1
 | .un _ _ _ a=>1+a.depth
 | .bin _ a b=>1+max a.depth b.depth
theorem A3k (t:T):t.node.Op=t.op:=by cases t<;>rfl
def okT:Bool→T→Prop
 | true,.leaf op v=>(op=1∨op=2)∧v=0
 | false,.leaf op v=>(op=14∧0≤v∧v≤1000000000)∨(15≤op∧op≤24∧v=0)
 | true,.un op r g a=>((op=3∧r=0∧g=0)∨((op=6∨op=7)∧0≤r∧r≤3∧0≤g∧g≤3))∧okT true a
 | false,.un op r g a=>(op=25∧0≤r∧r≤3∧0≤g∧g≤3)∧okT true a
 | true,.bin op a b=>((op=4∨op=5)∧okT true a∧okT true b)∨(8≤op∧op≤13∧okT false a∧okT false b)
 | false,.bin op a b=>(op=26∨op=27)∧okT false a∧okT false b∧b.op<26
theorem okT.kind:∀{t:T} {k:Bool},okT k t→sift_isCondition t.node=k∧sift_isValue t.node=!k:=by
 intro t k h;have key:∀op:Int,(k=true→1≤op∧op≤13)→(k=false→14≤op∧op≤27)→t.node.Op=op→sift_isCondition t.node=k∧sift_isValue t.node=!k:=by
  intro op h1 h2 h3;unfold sift_isCondition sift_isValue;rw [h3]
  cases k
  ·obtain ⟨a,b⟩:=h2 rfl;refine ⟨?_,?_⟩
   ·by_cases hc:op≥1
    ·rw [Bx (dT hc)];exact dF (by omega)
    ·rw [An (dF hc)]
   ·rw [Bx (dT (by omega))];exact dT (by omega)
  ·obtain ⟨a,b⟩:=h1 rfl;refine ⟨?_,?_⟩
   ·rw [Bx (dT (by omega))];exact dT (by omega)
   ·rw [An (dF (by omega))];rfl
 cases t with
 | leaf op v=>cases k<;>simp only [okT] at h<;>exact key op (fun e=>by cases e<;>omega) (fun e=>by cases e<;>omega) rfl
 | un op r g a=>cases k<;>simp only [okT] at h<;>exact key op (fun e=>by cases e<;>omega) (fun e=>by cases e<;>omega) rfl
 | bin op a b=>cases k<;>simp only [okT] at h<;>exact key op (fun e=>by cases e<;>omega) (fun e=>by cases e<;>omega) rfl
end Go.Proofs.YtkjnafecmjakcaaGreatDoor
namespace Go.Proofs.YtkjnafecmjakcaaGreatDoor
open Go Go.RowKit Go.Eng
set_option maxRecDepth 10000
set_option linter.unusedVariables false
set_option linter.unusedSimpArgs false
theorem T.size_pos (t:T):1≤t.size:=by cases t<;>simp only [T.size]<;>omega
theorem Ty (F:Nat) (p:sift_Node) (m:Int):El (F+1) p m=D5 (El F) p m F 0 1:=rfl
theorem A60 {self_:sift_Node→Int→Option Int} {p:sift_Node} {m x y:Int} {n:Nat}:D5 self_ p m (n+1) x y=G1 self_ p m (D5 self_ p m n) x y:=rfl
theorem Yq {self_:sift_Node→Int→Option Int} {p u:sift_Node} {m x y z:Int} {n i:Nat} (hx:x=(i:Int)) (hi:p.Args[i]? = some u) (hl:p.Args.length≤2) (hm:y≤m) (hm2:0≤y∧m≤1000000) (hz:self_ u (m-y)=some z) (hz2:0≤z∧z≤1000000) :
  D5 self_ p m (n+1) x y=D5 self_ p m n (x+1) (y+z):=by
 have hlt:=(List.getElem?_eq_some_iff.1 hi).1;rw [A60,G1,Bx (dT (by omega)),Hs i u hx hi,An (dF (by omega)),ckb (by omega),hz,sbd,ckb (by omega),ckb (by omega)]
theorem Ws {self_:sift_Node→Int→Option Int} {p:sift_Node} {m x y:Int} {n:Nat} (hx:(p.Args.length:Int)≤x):D5 self_ p m (n+1) x y=some y:=by
 rw [A60,G1,An (dF (by omega))];rfl
theorem Yr:∀(t:T) (F:Nat) (m:Int),t.size+4≤F→(t.size:Int)≤m→m≤1000000→El F t.node m=some (t.size:Int):=by
 intro t
 induction t with
 | leaf op v =>
  intro F m hF h1 h2;obtain ⟨F,rfl⟩:∃G,F=G+2:=⟨F-2,by simp only [T.size] at hF;omega⟩;rw [Ty];exact Ws (Int.le_refl _)
 | un op r g a ih =>
  intro F m hF h1 h2;simp only [T.size] at hF h1;have:=a.size_pos;obtain ⟨F,rfl⟩:∃G,F=G+3:=⟨F-3,by omega⟩;rw [Ty];rw [Yq (p:=(T.un op r g a).node) (x:=0) (y:=1) (i:=0) (u:=a.node) rfl rfl (by simp [T.node]) (by omega) (by omega) (ih (F+2) (m-1) (by omega) (by omega) (by omega)) (by omega),Ws (by simp [T.node])];simp only [T.size];congr 1
 | bin op a b iha ihb =>
  intro F m hF h1 h2;simp only [T.size] at hF h1;have:=a.size_pos;have:=b.size_pos;obtain ⟨F,rfl⟩:∃G,F=G+4:=⟨F-4,by omega⟩;rw [Ty];rw [Yq (p:=(T.bin op a b).node) (x:=0) (y:=1) (i:=0) (u:=a.node) rfl rfl (by simp [T.node]) (by omega) (by omega) (iha (F+3) (m-1) (by omega) (by omega) (by omega)) (by omega),
   Yq (p:=(T.bin op a b).node) (x:=0+1) (i:=1) (u:=b.node) rfl rfl (by simp [T.node]) (by omega) (by omega) (ihb (F+3) (m-(1+a.size)) (by omega) (by omega) (by omega)) (by omega),Ws (by simp [T.node])]
  simp only [T.size];congr 1
theorem Ys (F:Nat) (p:sift_Node):Hl (F+1) p=Em (Hl F) p F 0 0:=rfl
theorem dpL {self_:sift_Node→Option Int} {p:sift_Node} {x y:Int} {n:Nat}:Em self_ p (n+1) x y=Jo self_ p (Em self_ p n) x y:=rfl
theorem A1d {self_:sift_Node→Option Int} {p u:sift_Node} {x y z:Int} {n i:Nat} (hy:y=(i:Int)) (hi:p.Args[i]? = some u) (hl:p.Args.length≤2) (hz:self_ u=some z) :
  Em self_ p (n+1) x y=Em self_ p n (if z>x then z else x) (y+1):=by
 have hlt:=(List.getElem?_eq_some_iff.1 hi).1;rw [dpL,Jo,Bx (dT (by omega)),Hs i u hy hi,hz,sbd,ckb (by omega)]
theorem Yt {self_:sift_Node→Option Int} {p:sift_Node} {x y:Int} {n:Nat} (hy:(p.Args.length:Int)≤y) (hx:-9000000000≤x∧x≤9000000000):Em self_ p (n+1) x y=some (x+1):=by
 rw [dpL,Jo,An (dF (by omega)),Na,ckb (by omega)]
theorem A32:∀(t:T) (F:Nat),t.depth+4≤F→t.depth≤1000000→Hl F t.node=some (t.depth:Int):=by
 intro t
 induction t with
 | leaf op v =>
  intro F hF h1;obtain ⟨F,rfl⟩:∃G,F=G+2:=⟨F-2,by simp only [T.depth] at hF;omega⟩;rw [Ys];exact Yt (Int.le_refl _) (by omega)
 | un op r g a ih =>
  intro F hF h1;simp only [T.depth] at hF h1;obtain ⟨F,rfl⟩:∃G,F=G+3:=⟨F-3,by omega⟩;rw [Ys];rw [A1d (p:=(T.un op r g a).node) (y:=0) (i:=0) (u:=a.node) rfl rfl (by simp [T.node]) (ih (F+2) (by omega) (by omega)),Yt (by simp [T.node]) (by split<;>omega)];simp only [T.depth];congr 1;split<;>omega
 | bin op a b iha ihb =>
  intro F hF h1;simp only [T.depth] at hF h1;obtain ⟨F,rfl⟩:∃G,F=G+4:=⟨F-4,by omega⟩;rw [Ys];rw [A1d (p:=(T.bin op a b).node) (y:=0) (i:=0) (u:=a.node) rfl rfl (by simp [T.node]) (iha (F+3) (by omega) (by omega)),A1d (p:=(T.bin op a b).node) (y:=0+1) (i:=1) (u:=b.node) rfl rfl (by simp [T.node]) (ihb (F+3) (by omega) (by omega)),Yt (by simp [T.node]) (by split<;>split<;>omega)];simp only [T.depth];congr 1;split<;>split<;>omega
structure StL (self_:sift_Node→Option Bool) (p:sift_Node) (k:Bool) (L:Nat→Int→Option Bool):Prop where
 go:∀n (i:Nat) u,p.Args[i]? = some u→p.Args.length≤2→sift_isCondition u=k→sift_isValue u=!k→self_ u=some true→L (n+1) (i:Int)=L n ((i:Int)+1)
 fin:∀n x,(p.Args.length:Int)≤x→p.Op<26→L (n+1) x=some true
 fin2:∀n x u,(p.Args.length:Int)≤x→26≤p.Op→p.Args[1]? = some u→u.Op<26→L (n+1) x=some true
theorem A70 {self_:sift_Node→Option Bool} {p:sift_Node}:StL self_ p true (J9 self_ p):=by
 refine ⟨fun n i u hi hl h1 h2 h3=>?_,fun n x hx ho=>?_,fun n x u hx ho hu hu2=>?_⟩
 ·have hlt:=(List.getElem?_eq_some_iff.1 hi).1;show E2 self_ p _ _=_;rw [E2,Bx (dT (by omega)),Hs i u rfl hi,h1,gdT (g:=(!true)==false&&true) rfl,h3,sbd,An (c:=bif (!true) then true else (!true)) rfl,ckb (by omega)]
 ·show E2 self_ p _ _=_;rw [E2,An (dF (by omega)),J5,Bx (dT ho)]
 ·show E2 self_ p _ _=_;rw [E2,An (dF (by omega)),J5,An (dF (by omega)),Hs (i:=1) 1 u rfl hu,dT hu2]
theorem A71 {self_:sift_Node→Option Bool} {p:sift_Node}:StL self_ p true (Ja self_ p):=by
 refine ⟨fun n i u hi hl h1 h2 h3=>?_,fun n x hx ho=>?_,fun n x u hx ho hu hu2=>?_⟩
 ·have hlt:=(List.getElem?_eq_some_iff.1 hi).1;show E3 self_ p _ _=_;rw [E3,Bx (dT (by omega)),Hs i u rfl hi,h1,gdT (g:=(!true)==false&&true) rfl,h3,sbd,An (c:=bif (!true) then true else (!true)) rfl,ckb (by omega)]
 ·show E3 self_ p _ _=_;rw [E3,An (dF (by omega)),J6,Bx (dT ho)]
 ·show E3 self_ p _ _=_;rw [E3,An (dF (by omega)),J6,An (dF (by omega)),Hs (i:=1) 1 u rfl hu,dT hu2]
theorem A72 {self_:sift_Node→Option Bool} {p:sift_Node}:StL self_ p true (Jb self_ p):=by
 refine ⟨fun n i u hi hl h1 h2 h3=>?_,fun n x hx ho=>?_,fun n x u hx ho hu hu2=>?_⟩
 ·have hlt:=(List.getElem?_eq_some_iff.1 hi).1;show E4 self_ p _ _=_;rw [E4,Bx (dT (by omega)),Hs i u rfl hi,h1,gdT (g:=(!true)==false&&true) rfl,h3,sbd,An (c:=bif (!true) then true else (!true)) rfl,ckb (by omega)]
 ·show E4 self_ p _ _=_;rw [E4,An (dF (by omega)),J7,Bx (dT ho)]
 ·show E4 self_ p _ _=_;rw [E4,An (dF (by omega)),J7,An (dF (by omega)),Hs (i:=1) 1 u rfl hu,dT hu2]
theorem A73 {self_:sift_Node→Option Bool} {p:sift_Node}:StL self_ p false (Jc self_ p):=by
 refine ⟨fun n i u hi hl h1 h2 h3=>?_,fun n x hx ho=>?_,fun n x u hx ho hu hu2=>?_⟩
 ·have hlt:=(List.getElem?_eq_some_iff.1 hi).1;show E5 self_ p _ _=_;rw [E5,Bx (dT (by omega)),Hs i u rfl hi,h2,gdT (g:=(!!false)==false&&true) rfl,h3,sbd,An (c:=bif (!!false) then true else (!true)) rfl,ckb (by omega)]
 ·show E5 self_ p _ _=_;rw [E5,An (dF (by omega)),J8,Bx (dT ho)]
 ·show E5 self_ p _ _=_;rw [E5,An (dF (by omega)),J8,An (dF (by omega)),Hs (i:=1) 1 u rfl hu,dT hu2]
theorem A0p {g r v:Int} (hg:0≤g) (hr:0≤r) (hv:0≤v):¬(if g<if r<v then r else v then g else if r<v then r else v)<0:=by split<;>split<;>omega
theorem A0o {g r m:Int} (hg:g≤m) (hr:r≤m):¬(if g>r then g else r)>m:=by split<;>omega
theorem eqT {a b:Int} (h:a=b):(a==b)=true:=by subst h;exact beq_self_eq_true _
theorem eqF {a b:Int} (h:a≠b):(a==b)=false:=beq_eq_false_iff_ne.2 h
theorem neF {a b:Int} (h:a=b):(a != b)=false:=by subst h;simp
theorem neT {a b:Int} (h:a≠b):(a != b)=true:=by simp [h]
theorem A0x:∀(t:T) (k:Bool) (F:Nat),okT k t→t.size+5≤F→Dl F t.node=some true:=by
 intro t
 induction t with
 | leaf op v =>
  intro k F h hF;obtain ⟨F,rfl⟩:∃G,F=G+2:=⟨F-2,by simp only [T.size] at hF;omega⟩;have hk:=h.kind;show Eo (F+1) (Dl (F+1)) ⟨op,v,0,0,[]⟩=_;have h3:op≠3∧op≠4∧op≠5∧op≠6∧op≠7∧op≠25∧op≠26∧op≠27∧¬(8≤op∧op≤13)∧op<26∧0≤v∧(op=14→v≤1000000000)∧(op≠14→v=0):=by
   cases k<;>simp only [okT] at h<;>refine ⟨?_,?_,?_,?_,?_,?_,?_,?_,?_,?_,?_,?_,?_⟩<;>omega
  obtain ⟨a1,a2,a3,a4,a5,a6,a7,a8,a9,a10,a11,a12,a13⟩:=h3;have e8:(bif decide (op≥8) then decide (op≤13) else false)=false:=by
   by_cases hc:op≥8
   ·rw [Bx (dT hc)];exact dF (by omega)
   ·rw [An (dF hc)]
  have hL:(([]:List sift_Node).length:Int)=0:=rfl;unfold Eo;dsimp only;rw [An (eqF a1),eqF a2,eqF a3,An (c:=false) rfl,An (c:=false) rfl,eqF a4,eqF a5,eqF a6,An (c:=false) rfl,An (c:=false) rfl,An (c:=false) rfl,e8,eqF a7,eqF a8,An (c:=false) rfl,An (c:=false) rfl,An (c:=false) rfl]
  by_cases h14:op=14
  ·rw [Bx (eqT h14),hL,neF rfl,An (c:=false) rfl,dF (A0p (Int.le_refl 0) (Int.le_refl 0) a11),An (c:=false) rfl,dF (show ¬v>1000000000 by have:=a12 h14;omega),An (c:=false) rfl,dF (A0o (Int.le_refl 0) (Int.le_refl 0)),An (c:=false) rfl];show Hh _ _ _ _=_;rw [Hh,An (dF (by simp)),Lj,Bx (dT a10)]
  ·have hv:=a13 h14;subst hv;rw [An (eqF h14)];have e9:(bif (!(sift_isCondition ⟨op,0,0,0,[]⟩)) then (!(sift_isValue ⟨op,0,0,0,[]⟩)) else false)=false:=by
    have h1:sift_isCondition ⟨op,0,0,0,[]⟩=k:=hk.1;have h2:sift_isValue ⟨op,0,0,0,[]⟩=!k:=hk.2;rw [h1,h2];cases k<;>rfl
   rw [An e9,hL,neF rfl,An (c:=false) rfl,dF (A0p (Int.le_refl 0) (Int.le_refl 0) (Int.le_refl 0)),An (c:=false) rfl,dF (show ¬(0:Int)>0 by omega),An (c:=false) rfl,dF (A0o (Int.le_refl 0) (Int.le_refl 0)),An (c:=false) rfl];show Hj _ _ _ _=_;rw [Hj,An (dF (by simp)),Ki,Bx (dT a10)]
 | un op r g a ih =>
  intro k F h hF;simp only [T.size] at hF;have:=a.size_pos;obtain ⟨F,rfl⟩:∃G,F=G+3:=⟨F-3,by omega⟩;show Eo (F+2) (Dl (F+2)) ⟨op,0,r,g,[a.node]⟩=_;have ha:okT true a:=by cases k<;>simp only [okT] at h<;>exact h.2
  have hs:=ih true (F+2) ha (by omega);have hk:=ha.kind;have hL:(([a.node]:List sift_Node).length:Int)=1:=rfl;have fin:∀(L:Nat→Int→Option Bool),StL (Dl (F+2)) ⟨op,0,r,g,[a.node]⟩ true L→op<26→L (F+2) 0=some true:=fun L hLL ho=>by
   have h1:=hLL.go (F+1) 0 a.node rfl (by simp) hk.1 hk.2 hs;have h2:=hLL.fin F ((0:Nat)+1:Int) (by simp) ho;exact h1.trans h2
  unfold Eo;dsimp only
  by_cases h3:op=3
  ·have hrg:r=0∧g=0:=by cases k<;>simp only [okT] at h<;>omega
   obtain ⟨rfl,rfl⟩:=hrg;rw [Bx (eqT h3),hL,neF rfl,An (c:=false) rfl,dF (A0p (Int.le_refl 0) (Int.le_refl 0) (Int.le_refl 0)),An (c:=false) rfl,dF (show ¬(0:Int)>0 by omega),An (c:=false) rfl,dF (A0o (Int.le_refl 0) (Int.le_refl 0)),An (c:=false) rfl];exact fin _ A70 (by omega)
  ·have hop:(op=6∨op=7∨op=25)∧0≤r∧r≤3∧0≤g∧g≤3:=by cases k<;>simp only [okT] at h<;>omega
   obtain ⟨hop,r1,r2,g1,g2⟩:=hop;have e6:(bif (bif (op==6) then true else (op==7)) then true else (op==25))=true:=by
    rcases hop with rfl|rfl|rfl<;>rfl
   rw [An (eqF h3),eqF (show op≠4 by omega),eqF (show op≠5 by omega),An (c:=false) rfl,An (c:=false) rfl,Bx e6,hL,neF rfl,An (c:=false) rfl,dF (A0p g1 r1 (Int.le_refl 0)),An (c:=false) rfl,dF (show ¬(0:Int)>0 by omega),An (c:=false) rfl,dF (A0o g2 r2),An (c:=false) rfl];exact fin _ A72 (by omega)
 | bin op a b iha ihb =>
  intro k F h hF;simp only [T.size] at hF;have:=a.size_pos;have:=b.size_pos;obtain ⟨F,rfl⟩:∃G,F=G+4:=⟨F-4,by omega⟩;show Eo (F+3) (Dl (F+3)) ⟨op,0,0,0,[a.node,b.node]⟩=_;have hL:(([a.node,b.node]:List sift_Node).length:Int)=2:=rfl;have fin:∀(q:Bool) (L:Nat→Int→Option Bool),StL (Dl (F+3)) ⟨op,0,0,0,[a.node,b.node]⟩ q L→okT q a→okT q b→(26≤op→b.op<26)→L (F+3) 0=some true:=fun q L hLL ha hb ho=>by
   have h1:=hLL.go (F+2) 0 a.node rfl (by simp) ha.kind.1 ha.kind.2 (iha q (F+3) ha (by omega));have h2:=hLL.go (F+1) 1 b.node rfl (by simp) hb.kind.1 hb.kind.2 (ihb q (F+3) hb (by omega));have h3:L (F+1) ((1:Nat)+1:Int)=some true:=by
    by_cases hc:op<26
    ·exact hLL.fin F _ (by simp) hc
    ·exact hLL.fin2 F _ b.node (by simp) (by show 26≤op;omega) rfl (by rw [A3k];exact ho (by omega))
   exact h1.trans (h2.trans h3)
  unfold Eo;dsimp only;have h3:op≠3:=by cases k<;>simp only [okT] at h<;>omega
  rw [An (eqF h3)]
  by_cases h4:op=4∨op=5
  ·have hab:okT true a∧okT true b:=by
    cases k<;>simp only [okT] at h
    ·omega
    ·rcases h with h|h
     ·exact h.2
     ·omega
   have e4:(bif (op==4) then true else (op==5))=true:=by rcases h4 with rfl|rfl<;>rfl
   rw [Bx e4,hL,neF rfl,An (c:=false) rfl,dF (A0p (Int.le_refl 0) (Int.le_refl 0) (Int.le_refl 0)),An (c:=false) rfl,dF (show ¬(0:Int)>0 by omega),An (c:=false) rfl,dF (A0o (Int.le_refl 0) (Int.le_refl 0)),An (c:=false) rfl];exact fin true _ A71 hab.1 hab.2 (by omega)
  ·have hab:okT false a∧okT false b∧(26≤op→b.op<26)∧(8≤op∧op≤13∨op=26∨op=27):=by
    cases k<;>simp only [okT] at h
    ·exact ⟨h.2.1,h.2.2.1,fun _=>h.2.2.2,by omega⟩
    ·rcases h with h|h
     ·omega
     ·exact ⟨h.2.2.1,h.2.2.2,by omega,by omega⟩
   obtain ⟨ha,hb,ho,hop⟩:=hab;have e8:(bif (bif (bif decide (op≥8) then decide (op≤13) else false) then true else (op==26)) then true else (op==27))=true:=by
    rcases hop with ⟨h1,h2⟩|rfl|rfl
    ·rw [dT h1,dT h2];rfl
    ·rfl
    ·rfl
   rw [eqF (show op≠4 by omega),eqF (show op≠5 by omega),An (c:=false) rfl,An (c:=false) rfl,eqF (show op≠6 by omega),eqF (show op≠7 by omega),eqF (show op≠25 by omega),An (c:=false) rfl,An (c:=false) rfl,An (c:=false) rfl,Bx e8,hL,neF rfl,An (c:=false) rfl,dF (A0p (Int.le_refl 0) (Int.le_refl 0) (Int.le_refl 0)),An (c:=false) rfl,dF (show ¬(0:Int)>0 by omega),An (c:=false) rfl,dF (A0o (Int.le_refl 0) (Int.le_refl 0)),An (c:=false) rfl];exact fin false _ A73 ha hb ho
end Go.Proofs.YtkjnafecmjakcaaGreatDoor
namespace Go.Proofs.YtkjnafecmjakcaaGreatDoor
open Go Go.RowKit Go.Eng
set_option maxRecDepth 10000
set_option linter.unusedVariables false
set_option linter.unusedSimpArgs false
def tb (l:List UInt8):ByteArray:=⟨l.toArray⟩
theorem A5r (a b:List UInt8):tb a++tb b=tb (a++b):=by
 apply ByteArray.ext;show (tb a++tb b).data=_;rw [ByteArray.data_append];simp [tb]
theorem E7 (a:List UInt8):(tb a).size=a.length:=by simp [tb,ByteArray.size]
theorem Pb {β:Type} {a b:List UInt8} {f:ByteArray→Option β} (h:a.length+b.length≤9000000000):(Lp (tb a) (tb b)).bind f=f (tb (a++b)):=by
 unfold Lp;rw [if_pos (by rw [E7,E7];omega),sbd,A5r]
theorem Sq (a b:List UInt8):sEq (tb a) (tb b)=decide (a=b):=by
 unfold sEq;have e:((tb a).data.toList=(tb b).data.toList)=(a=b):=by simp [tb]
 by_cases h:a=b
 ·rw [dT h,dT (by rw [e];exact h)]
 ·rw [dF h,dF (by rw [e];exact h)]
def wd (op:Int):List UInt8:=((Bm.1[op.toNat]?).getD ⟨#[]⟩).data.toList
theorem wdb {β:Type} {op:Int} {f:ByteArray→Option β} (h:0≤op∧op≤27):(X1 Bm op).bind f=f (tb (wd op)):=by
 unfold X1;have hl:op.toNat<Bm.1.length:=by rw [Bm.2];omega
 rw [Hs op.toNat (Bm.1[op.toNat]) (by omega) (List.getElem?_eq_getElem hl)];unfold wd;rw [List.getElem?_eq_getElem hl]
 congr 1
def textT:T→List UInt8
 | .leaf op v=>if op=14 then Lib.itoa v else wd op
 | .un op r g a=>if op=3 then wd 3++(32::textT a) else wd op++(32::(Lib.itoa r++(32::(Lib.itoa g++(32::textT a)))))
 | .bin op a b=>if op<14 then 40::(textT a++(32::(wd op++(32::(textT b++[41]))))) else textT a++(32::(wd op++(32::textT b)))
theorem Ud (op:Int):(wd op).length≤6:=by
 have key:∀i:Fin 28,((Bm.1[i.val]?).getD ⟨#[]⟩).data.toList.length≤6:=by decide
 unfold wd
 by_cases h:op.toNat<28
 ·exact key ⟨op.toNat,h⟩
 ·rw [List.getElem?_eq_none (by rw [Bm.2];omega)];simp
theorem A46:∀(k u:Nat),u<10 ^ (k+1)→Lib.nDigits u≤k+1
 | 0,u,h=>by rw [Lib.nDigits_small (by simpa using h)];omega
 | k+1,u,h=>by
  by_cases hu:u<10
  ·rw [Lib.nDigits_small hu];omega
  ·rw [Lib.nDigits_big hu];have:=A46 k (u/10) (by rw [Nat.pow_succ] at h;omega);omega
theorem Pw {v:Int} (h:0≤v∧v≤1000000000):(Lib.itoa v).length≤10:=by
 obtain ⟨u,rfl⟩:∃u:Nat,v=u:=⟨v.toNat,by omega⟩;rw [Lib.itoa_nonneg,Lib.decDigits_length];exact A46 9 u (by omega)
theorem Rq:∀(t:T) (k:Bool),okT k t→(textT t).length≤40*t.size:=by
 intro t
 induction t with
 | leaf op v =>
  intro k h;simp only [textT,T.size]
  split
  ·have:=Pw (v:=v) (by cases k<;>simp only [okT] at h<;>omega);omega
  ·have:=Ud op;omega
 | un op r g a ih =>
  intro k h;have ha:okT true a:=by cases k<;>simp only [okT] at h<;>exact h.2
  have h1:=ih true ha;have hr:0≤r∧r≤1000000000:=by cases k<;>simp only [okT] at h<;>omega
  have hg:0≤g∧g≤1000000000:=by cases k<;>simp only [okT] at h<;>omega
  have:=Pw hr;have:=Pw hg;have:=Ud op;have:=Ud 3;simp only [textT,T.size]
  split<;>simp only [List.length_append,List.length_cons]<;>omega
 | bin op a b iha ihb =>
  intro k h;have hab:(∃q,okT q a)∧∃q,okT q b:=by
   cases k<;>simp only [okT] at h
   ·exact ⟨⟨_,h.2.1⟩,⟨_,h.2.2.1⟩⟩
   ·rcases h with h|h
    ·exact ⟨⟨_,h.2.1⟩,⟨_,h.2.2⟩⟩
    ·exact ⟨⟨_,h.2.2.1⟩,⟨_,h.2.2.2⟩⟩
  obtain ⟨⟨q,ha⟩,q',hb⟩:=hab;have:=iha q ha;have:=ihb q' hb;have:=Ud op;simp only [textT,T.size]
  split<;>simp only [List.length_append,List.length_cons,List.length_nil]<;>omega
theorem A1q {β:Type} {F:Nat} {v:Int} {f:ByteArray→Option β} (h:0≤v∧v≤1000000000):(strconv_Itoa F v).bind f=f (tb (Lib.itoa v)):=by
 unfold strconv_Itoa;rw [if_pos (by omega),sbd];rfl
theorem Zc (F:Nat) (p:sift_Node):Gk (F+1) p=Fo F (Gk F) p:=rfl
theorem A2n:(⟨#[32]⟩:ByteArray)=tb [32]:=rfl
theorem A3x:∀(t:T) (k:Bool) (F:Nat),okT k t→t.size+2≤F→t.size≤1000000→Gk F t.node=some (tb (textT t)):=by
 intro t
 induction t with
 | leaf op v =>
  intro k F h hF _;obtain ⟨F,rfl⟩:∃G,F=G+1:=⟨F-1,by simp only [T.size] at hF;omega⟩;have h0:0≤op∧op≤27:=by cases k<;>simp only [okT] at h<;>omega
  rw [Zc];show Fo F _ ⟨op,v,0,0,[]⟩=_;unfold Fo;dsimp only;rw [wdb h0]
  by_cases h14:op=14
  ·rw [Bx (eqT h14),A1q (by cases k<;>simp only [okT] at h<;>omega)]
   simp only [textT,if_pos h14]
  ·rw [An (eqF h14),An (eqF (show op≠3 by cases k<;>simp only [okT] at h<;>omega)),An (eqF (show (([]:List sift_Node).length:Int)≠1 by simp)),Bx (eqT (show (([]:List sift_Node).length:Int)=0 by simp))]
   simp only [textT,if_neg h14]
 | un op r g a ih =>
  intro k F h hF hs;simp only [T.size] at hF hs;obtain ⟨F,rfl⟩:∃G,F=G+1:=⟨F-1,by omega⟩;have h0:0≤op∧op≤27∧op≠14:=by cases k<;>simp only [okT] at h<;>omega
  have ha:okT true a:=by cases k<;>simp only [okT] at h<;>exact h.2
  have hr:0≤r∧r≤1000000000:=by cases k<;>simp only [okT] at h<;>omega
  have hg:0≤g∧g≤1000000000:=by cases k<;>simp only [okT] at h<;>omega
  have hi:=ih true F ha (by omega) (by omega);have hl:=Rq a true ha;have l1:=Pw hr;have l2:=Pw hg;have l3:=Ud op;rw [Zc];show Fo F _ ⟨op,0,r,g,[a.node]⟩=_;unfold Fo;dsimp only;rw [wdb ⟨h0.1,h0.2.1⟩,An (eqF h0.2.2)]
  by_cases h3:op=3
  ·subst h3;rw [Bx (eqT rfl),A2n,Pb (by simp;omega),Xy,hi,sbd,Pb (by simp;omega)];simp only [textT,if_pos,List.append_assoc,List.singleton_append]
  ·rw [An (eqF h3),Bx (eqT (show (([a.node]:List sift_Node).length:Int)=1 by simp)),A2n,Pb (by simp;omega),A1q hr,Pb (by simp;omega),Pb (by simp;omega),A1q hg,Pb (by simp;omega),Pb (by simp;omega),Xy,hi,sbd,Pb (by simp;omega)];simp only [textT,if_neg h3,List.append_assoc,List.singleton_append,List.cons_append,List.nil_append]
 | bin op a b iha ihb =>
  intro k F h hF hs;simp only [T.size] at hF hs;obtain ⟨F,rfl⟩:∃G,F=G+1:=⟨F-1,by omega⟩;have h0:0≤op∧op≤27∧op≠14∧op≠3:=by cases k<;>simp only [okT] at h<;>omega
  have hab:(∃q,okT q a)∧∃q,okT q b:=by
   cases k<;>simp only [okT] at h
   ·exact ⟨⟨_,h.2.1⟩,⟨_,h.2.2.1⟩⟩
   ·rcases h with h|h
    ·exact ⟨⟨_,h.2.1⟩,⟨_,h.2.2⟩⟩
    ·exact ⟨⟨_,h.2.2.1⟩,⟨_,h.2.2.2⟩⟩
  obtain ⟨⟨q,ha⟩,q',hb⟩:=hab;have hia:=iha q F ha (by omega) (by omega);have hib:=ihb q' F hb (by omega) (by omega);have hl:=Rq a q ha;have hl2:=Rq b q' hb;have l3:=Ud op;rw [Zc];show Fo F _ ⟨op,0,0,0,[a.node,b.node]⟩=_;unfold Fo;dsimp only;rw [wdb ⟨h0.1,h0.2.1⟩,An (eqF h0.2.2.1),An (eqF h0.2.2.2),An (eqF (show (([a.node,b.node]:List sift_Node).length:Int)≠1 by simp)),An (eqF (show (([a.node,b.node]:List sift_Node).length:Int)≠0 by simp)),
   Xy,hia,sbd,A2n,Pb (by simp;omega),Pb (by simp;omega),Pb (by simp;omega),A6w,hib,sbd,Pb (by simp;omega)]
  by_cases h14:op<14
  ·rw [Bx (dT h14),show (⟨#[40]⟩:ByteArray)=tb [40] from rfl,show (⟨#[41]⟩:ByteArray)=tb [41] from rfl,Pb (by simp;omega),Pb (by simp;omega)];simp only [textT,if_pos h14,List.append_assoc,List.singleton_append,List.cons_append,List.nil_append]
  ·rw [An (dF h14)];simp only [textT,if_neg h14,List.append_assoc,List.singleton_append,List.cons_append,List.nil_append]
end Go.Proofs.YtkjnafecmjakcaaGreatDoor
namespace Go.Proofs.YtkjnafecmjakcaaGreatDoor
open Go Go.RowKit Go.Eng
set_option maxRecDepth 10000
set_option linter.unusedVariables false
set_option linter.unusedSimpArgs false
def Uo (c:UInt8):Bool:=decide (48≤c.toNat)&&decide (c.toNat≤57)
theorem Wx:∀(n:Nat),∀c∈Lib.decDigits n,Uo c=true:=by
 intro n
 induction n using Nat.strongRecOn with
 | _ n ih =>
  have one:∀i:Fin 10,Uo (UInt8.ofNat (48+i.val))=true:=by decide
  intro c hc;rw [Lib.decDigits] at hc
  split at hc
  ·rename_i h
   rw [List.mem_singleton] at hc;subst hc;exact one ⟨n,h⟩
  ·rcases List.mem_append.1 hc with hc|hc
   ·exact ih (n/10) (by omega) c hc
   ·rw [List.mem_singleton] at hc;subst hc;exact one ⟨n%10,Nat.mod_lt _ (by omega)⟩
def A4c (l:List UInt8):Nat:=l.foldl (fun a c=>10*a+(c.toNat-48)) 0
theorem A31 (n:Nat):A4c (Lib.decDigits n)=n:=by
 induction n using Nat.strongRecOn with
 | _ n ih =>
  have one:∀i:Fin 10,(UInt8.ofNat (48+i.val)).toNat-48=i.val:=by decide
  rw [Lib.decDigits]
  split
  ·rename_i h
   show 10*0+((UInt8.ofNat (48+n)).toNat-48)=n;rw [one ⟨n,h⟩];show 10*0+n=n;omega
  ·have e:=ih (n/10) (by omega);unfold A4c at e ⊢;rw [List.foldl_append,e];show 10*(n/10)+((UInt8.ofNat (48+n%10)).toNat-48)=n;rw [one ⟨n%10,Nat.mod_lt _ (by omega)⟩];show 10*(n/10)+n%10=n;omega
theorem Kx {v:Int} (h:0≤v):∃c r,Lib.itoa v=c::r∧Uo c=true:=by
 obtain ⟨a,rfl⟩:∃a:Nat,v=a:=⟨v.toNat,by omega⟩;rw [Lib.itoa_nonneg]
 cases hd:Lib.decDigits a with
 | nil =>
  have:=Lib.decDigits_length a;rw [hd] at this;have:=Lib.nDigits_pos a;simp at *;omega
 | cons c r=>exact ⟨c,r,rfl,Wx a c (by rw [hd];simp)⟩
def Xz:List Int:=[1,2,3,6,7,15,16,17,18,19,20,21,22,23,24,25]
theorem U5 {op:Int} (h:op=1∨op=2∨op=3∨op=6∨op=7∨(15≤op∧op≤25)):op∈Xz:=by
 have:op=1∨op=2∨op=3∨op=6∨op=7∨op=15∨op=16∨op=17∨op=18∨op=19∨op=20∨op=21∨op=22∨op=23∨op=24∨op=25:=by omega
 simp [Xz];omega
inductive Beg where
 | num (v:Int)
 | word (op:Int) (r:List UInt8)
 | open_ (r:List UInt8)
def Beg.ok:Beg→Prop
 | .num v=>0≤v
 | .word op _=>op∈Xz
 | .open_ _=>True
theorem okU {k:Bool} {op r g:Int} {x:T} (h:okT k (.un op r g x)):okT true x∧0≤r∧0≤g∧(op=3→r=0∧g=0):=by
 cases k<;>simp only [okT] at h
 ·exact ⟨h.2,by omega,by omega,by omega⟩
 ·exact ⟨h.2,by omega,by omega,by omega⟩
end Go.Proofs.YtkjnafecmjakcaaGreatDoor
namespace Go.Proofs.YtkjnafecmjakcaaGreatDoor
open Go Go.RowKit Go.Eng
set_option maxRecDepth 10000
set_option linter.unusedVariables false
set_option linter.unusedSimpArgs false
def tab {α:Type} (n:Nat) (f:Int→α):List α:=(List.range n).map fun i:Nat=>f (i:Int)
def irg (lo hi:Int):List Int:=(List.range (hi+1-lo).toNat).map fun i:Nat=>lo+(i:Int)
def nb1 (R m k g b:Int):List Int:=((irg (if k%m-g>0 then k%m-g else 0) (if k%m+g<m-1 then k%m+g else m-1)).map fun j=>(b+R)%R*m+j).filter fun o=>o != k
def nbs (R m k r g:Int):List Int:=(if k/m+r-(k/m-r)≥R then irg 0 (R-1) else irg (k/m-r) (k/m+r)).flatMap (nb1 R m k g)
section
variable {σ:Type} {body:σ→Int→Option (σ×Bool)} {f:σ→Int→σ} {P:σ→Nat→Prop} {d:sift_scan} {R m k r g:Int}
end
end Go.Proofs.YtkjnafecmjakcaaGreatDoor
namespace Go.Proofs.YtkjnafecmjakcaaGreatDoor
open Go Go.RowKit Go.Eng
set_option maxRecDepth 10000
set_option linter.unusedVariables false
set_option linter.unusedSimpArgs false
def W0 (s:api_Sweep) (k:Int):api_Echo:=((s.Rays[(k/s.Site.Gates).toNat]?.getD [])[(k%s.Site.Gates).toNat]?).getD default
def pt (n:Int):sift_val:=⟨⟨n,n⟩,true⟩
def noV:sift_val:=⟨⟨0,0⟩,false⟩
def A4q (s:api_Sweep) (op v k:Int):sift_val :=
 if op=14 then pt v else if op=21 then pt (W0 s k).Kind else if op=22 then pt (k/s.Site.Gates) else if op=23 then pt (k%s.Site.Gates) else if op=24 then pt s.Tilt else if op=15 then ⟨(W0 s k).Power,true⟩
 else if (W0 s k).Kind=1 then noV else if op=16 then ⟨(W0 s k).Ratio,true⟩ else if op=17 then ⟨(W0 s k).Match,true⟩ else if op=18 then pt (W0 s k).Spread else if (W0 s k).Kind=2 then noV else if op=19 then ⟨(W0 s k).Turn,true⟩ else ⟨⟨(W0 s k).Steps.1.Lo,(W0 s k).Steps.1.Hi⟩,true⟩
def tri (a b:Prop) [Decidable a] [Decidable b]:Int:=if a then 1 else if b then 2 else 3
def mx (a b:Int):Int:=if b>a then b else a
def mn (a b:Int):Int:=if b<a then b else a
def A5z (op:Int) (x y:api_Span):Int :=
 if op=8∨op=10 then tri (x.Hi<y.Lo) (x.Lo<y.Hi) else if op=9∨op=11 then tri (x.Hi≤y.Lo) (x.Lo≤y.Hi)
 else if op=12 then tri (mx x.Hi y.Hi=mn x.Lo y.Lo) (x.Lo≤y.Hi∧y.Lo≤x.Hi) else tri (x.Hi<y.Lo∨y.Hi<x.Lo) (mx x.Hi y.Hi≠mn x.Lo y.Lo)
def A6v (op:Int) (a b:sift_val):Int :=
 if a.has=false∨b.has=false then 3 else if op=10∨op=11 then A5z op b.span a.span else A5z op a.span b.span
def A74 (op:Int) (a b:sift_val):sift_val :=
 if a.has=false∨b.has=false then noV else if op=27 then ⟨⟨a.span.Lo-b.span.Hi,a.span.Hi-b.span.Lo⟩,true⟩ else ⟨⟨a.span.Lo+b.span.Lo,a.span.Hi+b.span.Hi⟩,true⟩
def A68 (op:Int) (l:List Int) (f:Int→Int):Int :=
 if op=6 then l.foldl (fun a o=>mn a (f o)) 3 else l.foldl (fun a o=>mx a (f o)) 1
def A4l (l:List Int) (f:Int→Int):sift_val:=⟨⟨l.countP fun o=>f o==1,l.countP fun o=>f o != 3⟩,true⟩
def T.sem (s:api_Sweep):T→Int→Int×sift_val
 | .leaf op v,k=>(if op=1 then 1 else 3,A4q s op v k)
 | .un op r g a,k=>(if op=3 then 4-(a.sem s k).1 else A68 op (nbs s.Rays.length s.Site.Gates k r g) fun o=>(a.sem s o).1,A4l (nbs s.Rays.length s.Site.Gates k r g) fun o=>(a.sem s o).1)
 | .bin op a b,k=>(if op=4 then mx (a.sem s k).1 (b.sem s k).1 else if op=5 then mn (a.sem s k).1 (b.sem s k).1 else A6v op (a.sem s k).2 (b.sem s k).2,A74 op (a.sem s k).2 (b.sem s k).2)
def bdS (x:api_Span):Prop:=-2147483648≤x.Lo∧x.Lo≤2147483648∧-2147483648≤x.Hi∧x.Hi≤2147483648
def bdE (e:api_Echo):Prop:=bdS e.Power∧bdS e.Ratio∧bdS e.Match∧bdS e.Turn∧bdS e.Steps.1∧bdS e.Steps.2∧0≤e.Kind∧e.Kind≤3∧0≤e.Spread∧e.Spread≤65535
structure Swp (s:api_Sweep) (R m:Nat):Prop where
 hR:s.Rays.length=R
 hm:s.Site.Gates=m
 R4:4≤R∧R≤500
 m1:1≤m∧m≤1000
 N1:R*m≤1000
 rows:∀l∈s.Rays,l.length=m
 bds:∀l∈s.Rays,∀e∈l,bdE e
 tilt:0≤s.Tilt∧s.Tilt≤256
theorem Zu {β:Type} {k m:Int} {f:Int→Option β} (hk:0≤k) (hm:1≤m):(U8 k m).bind f=f (k%m):=by
 unfold U8;rw [if_neg (by omega),Int.tmod_eq_emod_of_nonneg hk];rfl
theorem A6u {p q:Prop} [Decidable p] [Decidable q]:(bif decide p then decide q else false)=true↔p∧q:=by by_cases h:p<;>simp [h]
end Go.Proofs.YtkjnafecmjakcaaGreatDoor
namespace Go.Proofs.YtkjnafecmjakcaaGreatDoor
open Go Go.RowKit Go.Eng
set_option maxRecDepth 10000
set_option linter.unusedVariables false
set_option linter.unusedSimpArgs false
theorem Nj {f:Int→List Int} {c:Nat} (hf:∀x,(f x).length≤c):∀l:List Int,(l.flatMap f).length≤l.length*c:=by
 intro l
 induction l with
 | nil=>simp
 | cons x l ih =>
  rw [List.flatMap_cons,List.length_append,List.length_cons,Nat.add_mul];have:=hf x;omega
section
variable {κ ν:Type} [DecidableEq κ]
end
structure Inv (s:api_Sweep) (N:Nat) (d:sift_scan):Prop where
 hs:d.s=s
 hn:d.n=(N:Int)
 ht:∀t l,okT true t→lkM d.tests (tb (textT t))=some l→l=tab N fun k=>(t.sem s k).1
 hv:∀t l,okT false t→lkM d.values (tb (textT t))=some l→l=tab N fun k=>(t.sem s k).2
section
variable {s:api_Sweep} {R m N:Nat} {d d':sift_scan}
end
end Go.Proofs.YtkjnafecmjakcaaGreatDoor
namespace Go.Proofs.YtkjnafecmjakcaaGreatDoor
open Go Go.RowKit Go.Eng
set_option maxRecDepth 10000
set_option linter.unusedVariables false
set_option linter.unusedSimpArgs false
section
variable {F:Nat} {S:Ag} {V:Af} {d:sift_scan} {p:sift_Node} {key:ByteArray}
end
end Go.Proofs.YtkjnafecmjakcaaGreatDoor
namespace Go.Proofs.YtkjnafecmjakcaaGreatDoor
open Go Go.RowKit Go.Eng
set_option maxRecDepth 10000
set_option linter.unusedVariables false
set_option linter.unusedSimpArgs false
def rlN (p:ByteArray×T):sift_Rule:=⟨p.1,p.2.node⟩
def rl (L:List (ByteArray×T)):List sift_Rule:=L.map rlN
theorem Kt (L:List (ByteArray×T)):(rl L).length=L.length:=by simp [rl]
theorem Mw {L:List (ByteArray×T)} {i:Nat} {p:ByteArray×T} (h:L[i]? = some p):(rl L)[i]? = some (rlN p):=by simp [rl,h]
structure GoodR (L:List (ByteArray×T)):Prop where
 len:L.length≤32
 size:(L.map (·.2.size)).sum≤300
 names:∀p∈L,∀F,30≤F→beam_Name F p.1=some true∧sift_word F p.1=some false
 distinct:∀(i j:Nat) (p q:ByteArray×T),L[i]? = some p→L[j]? = some q→i<j→p.1≠q.1
 trees:∀p∈L,okT true p.2∧p.2.depth≤12
theorem A2p {L:List (ByteArray×T)} {i:Nat} {p:ByteArray×T} (h:L[i]? = some p):((L.drop i).map (·.2.size)).sum=p.2.size+((L.drop (i+1)).map (·.2.size)).sum:=by
 obtain ⟨h1,h2⟩:=List.getElem?_eq_some_iff.1 h;rw [List.drop_eq_getElem_cons h1,List.map_cons,List.sum_cons,h2]
theorem V2 {L:List (ByteArray×T)} {p:ByteArray×T} (h:p∈L):p.2.size≤(L.map (·.2.size)).sum:=by
 induction L with
 | nil=>cases h
 | cons q L ih =>
  rw [List.map_cons,List.sum_cons];rcases List.mem_cons.1 h with rfl|h
  ·omega
  ·have:=ih h;omega
theorem A06 {l:List sift_Rule} {r:sift_Rule} (hl:l.length≤40) (h:∀(i:Nat) (x:sift_Rule),l[i]? = some x→sEq x.Name r.Name=false):∀(F j:Nat),l.length+1≤F+j→j≤l.length→B1 l r F j=some (-1):=by
 intro F
 induction F with
 | zero=>intro j h1 h2;omega
 | succ F ih =>
  intro j h1 h2;show Bh l r _ j=_;unfold Bh
  by_cases hj:j<l.length
  ·rw [Bx (dT (by omega)),Hs j _ rfl (List.getElem?_eq_getElem hj)];unfold Lc;rw [An (h j _ (List.getElem?_eq_getElem hj)),ckb (by omega)];exact ih (j+1) (by omega) (by omega)
  ·rw [An (dF (by omega))];rfl
theorem Xm {L:List (ByteArray×T)} (h:GoodR L) {F:Nat} (hF:400≤F):Gx F (rl L)=some 0:=by
 have hlen:=h.len;have l3:∀(n j:Nat),L.length+1≤n+j→j≤L.length→K6 F (rl L) n j=some 0:=by
  intro n
  induction n with
  | zero=>intro j h1 h2;omega
  | succ n ih =>
   intro j h1 h2;show K4 F (rl L) _ j=_;unfold K4;rw [Kt]
   by_cases hj:j<L.length
   ·have hp:=List.getElem?_eq_getElem hj;have hm:=List.getElem_mem hj;generalize L[j]=p at hp hm;obtain ⟨n1,n2⟩:=h.names p hm F (by omega);obtain ⟨t1,t2⟩:=h.trees p hm;have hsz:=Nat.le_trans (V2 hm) h.size;have e1:sift_isCondition (rlN p).When=true:=t1.kind.1;rw [Bx (dT (by omega)),Hs j _ rfl (Mw hp),show beam_Name F (rlN p).Name=some true from n1,sbd,gdT (g:=(!true)==false&&true) rfl,show sift_word F (rlN p).Name=some false from n2,sbd,An (c:=bif !true then true else false) rfl,
     show Qw (rl L) 0 (j:Int)=some ((rl L).take j) by unfold Qw;rw [if_pos (by rw [Kt];omega)];simp,sbd]
    unfold Bo Bw;rw [show B1 ((rl L).take j) (rlN p) F 0=some (-1) from A06 (by simp [Kt];omega) (by
     intro i x hx;obtain ⟨hi,hx2⟩:=List.getElem?_eq_some_iff.1 hx;have hij:i<j:=by simp [Kt] at hi;omega
     rw [List.getElem?_take_of_lt hij] at hx;have hq:=List.getElem?_eq_getElem (show i<L.length by omega);rw [Mw hq] at hx
     cases hx
     have:=h.distinct i j _ _ hq hp hij;exact dF fun e=>this (ByteArray.ext (Array.toList_inj.1 e))) F 0 (by simp [Kt];omega) (by omega),sbd,sbd,An (c:=decide ((-1:Int)≥0)) rfl,
     show Hl F (rlN p).When=some (p.2.depth:Int) from A32 p.2 F (by omega) (by omega),sbd,An (dF (by omega)),e1,gdT (g:=(!true)==false&&true) rfl,show Dl F (rlN p).When=some true from A0x p.2 true F t1 (by omega),sbd,An (c:=bif !true then true else !true) rfl,ckb (by omega)]
    exact ih (j+1) (by omega) (by omega)
   ·rw [An (dF (by omega))];rfl
 have l4:∀(n j:Nat) (y:Int),L.length+1≤n+j→j≤L.length→0≤y→y+(((L.drop j).map (·.2.size)).sum:Nat)≤300→K7 F (rl L) n j y=some 0:=by
  intro n
  induction n with
  | zero=>intro j y h1 h2;omega
  | succ n ih =>
   intro j y h1 h2 h3 h4;show K5 F (rl L) _ j y=_;unfold K5;rw [Kt]
   by_cases hj:j<L.length
   ·have hp:=List.getElem?_eq_getElem hj;have hm:=List.getElem_mem hj;generalize L[j]=p at hp hm;have hsz:=Nat.le_trans (V2 hm) h.size;rw [A2p hp] at h4;rw [Bx (dT (by omega)),Hs j _ rfl (Mw hp),show El F (rlN p).When 300=some (p.2.size:Int) from Yr p.2 F 300 (by omega) (by omega) (by omega),sbd,ckb (by omega),An (dF (by omega)),ckb (by omega)];exact ih (j+1) _ (by omega) (by omega) (by omega) (by omega)
   ·rw [An (dF (by omega))];exact l3 F 0 (by omega) (by omega)
 unfold Gx;rw [Kt,An (dF (by omega))];exact l4 F 0 0 (by omega) (by omega) (by omega) (by rw [List.drop_zero];have:=h.size;omega)
section
variable {s:api_Sweep} {R m:Nat} {fs:List (Int→Int)}
end
end Go.Proofs.YtkjnafecmjakcaaGreatDoor
namespace Go.Proofs.YtkjnafecmjakcaaGreatDoor
open Go Go.RowKit Go.Eng
set_option maxRecDepth 10000
set_option linter.unusedVariables false
set_option linter.unusedSimpArgs false
def Q6 (l:List Int):Prop:=∀x∈l,0≤x∧x<256
def T.noRay:T→Prop
 | .leaf op _=>op≠22
 | .un _ _ _ a=>a.noRay
 | .bin _ a b=>a.noRay∧b.noRay
theorem P9 {p:List Int} (hp:Q6 p) (F:Nat) {n:Int} (hn:1≤n):∃x p',C4 F p n=some (x,p')∧0≤x∧x<n∧Q6 p':=by
 unfold C4
 cases p with
 | nil=>exact ⟨0,[],rfl,by omega,by omega,hp⟩
 | cons a l =>
  have ha:=hp a (by simp);refine ⟨a%n,l,?_,Int.emod_nonneg _ (by omega),Int.emod_lt_of_pos _ (by omega),fun x hx=>hp x (by simp [hx])⟩;rw [An (eqF (by simp;omega)),Xy,ckb (by omega),Zu ha.1 hn];unfold Qw;rw [if_pos (by simp only [List.length_cons];omega)];simp
theorem G7 (n:sift_Node):sift_Node.mk n.Op n.Value_ n.Rays n.Gates n.Args=n:=by cases n;rfl
structure Mean (k ray:Bool) (d:Nat) (t:T):Prop where
 ok:okT k t
 size:t.size+1≤2 ^ d
 depth:t.depth≤d
 one:d=1→t.op<26
 ray:ray=false→t.noRay
theorem A2e {d:Nat} (h:1≤d):2≤2 ^ d:=Nat.pow_le_pow_right (n:=2) (i:=1) (by omega) h
theorem A3l (ray:Bool):∀(d F:Nat) (p:List Int),Q6 p→d+1≤F→d≤100 →
  (2≤d→∃t p',Bp F p d ray=some (t.node,p')∧Mean true ray d t∧Q6 p') ∧
  (1≤d→∃t p',Cw F p d ray=some (t.node,p')∧Mean false ray d t∧Q6 p'):=by
 intro d
 induction d using Nat.strongRecOn with
 | _ d ih =>
  intro F p hp hF hd;obtain ⟨F,rfl⟩:∃G,F=G+1:=⟨F-1,by omega⟩;constructor
  ·intro h2;obtain ⟨e,rfl⟩:∃e,d=e+1:=⟨d-1,by omega⟩;have hpw:2 ^ (e+1)=2 ^ e+2 ^ e:=by rw [Nat.pow_succ];omega
   have hp2:=A2e (d:=e) (by omega);have k1:∀(l:List Int) (x:Int),Q6 l→1≤x∧x≤13→(e+1<3→8≤x)→∃t p',C8 F (Bp F) (Cw F) (e+1:Nat) ray l x=some (t.node,p')∧Mean true ray (e+1) t∧Q6 p':=by
    intro l x hl hx hx3;unfold C8;have hdm:((e+1:Nat):Int)-1=(e:Int):=by omega
    rw [hdm,ckb (by omega),ckb (by omega),ckb (by omega)]
    by_cases c1:x≤2
    ·rw [Bx (dT c1)];exact ⟨.leaf x 0,l,rfl,⟨by show (x=1∨x=2)∧(0:Int)=0;omega,by simp only [T.size];omega,by simp only [T.depth];omega,by omega,fun _=>by simp only [T.noRay];omega⟩,hl⟩
    rw [An (dF c1)]
    by_cases c2:x=3
    ·obtain ⟨t,p',q1,q2,q3⟩:=(ih e (by omega) F l hl (by omega) (by omega)).1 (by omega);rw [Bx (eqT c2),q1,sbd];exact ⟨.un x 0 0 t,p',by dsimp only;rw [G7];rfl,⟨by simp only [okT];exact ⟨.inl ⟨c2,trivial,trivial⟩,q2.ok⟩,by have:=q2.size;simp only [T.size];omega,by have:=q2.depth;simp only [T.depth];omega,by omega,fun hr=>q2.ray hr⟩,q3⟩
    rw [An (eqF c2)]
    by_cases c3:x≤5
    ·obtain ⟨t,p',q1,q2,q3⟩:=(ih e (by omega) F l hl (by omega) (by omega)).1 (by omega);obtain ⟨t2,p2,r1,r2,r3⟩:=(ih e (by omega) F p' q3 (by omega) (by omega)).1 (by omega);rw [Bx (dT c3),q1,sbd,ckb (by omega)];dsimp only;rw [r1,sbd];exact ⟨.bin x t t2,p2,by dsimp only;rw [G7,G7];rfl,⟨by simp only [okT];exact .inl ⟨by omega,q2.ok,r2.ok⟩,by have:=q2.size;have:=r2.size;simp only [T.size];omega,by have:=q2.depth;have:=r2.depth;simp only [T.depth];omega,by omega,fun hr=>⟨q2.ray hr,r2.ray hr⟩⟩,r3⟩
    rw [An (dF c3)]
    by_cases c4:x≤7
    ·obtain ⟨a,pa,a1,a2,a3,a4⟩:=P9 hl F (n:=3) (by omega);obtain ⟨b,pb,b1,b2,b3,b4⟩:=P9 a4 F (n:=3) (by omega);obtain ⟨t,p',q1,q2,q3⟩:=(ih e (by omega) F pb b4 (by omega) (by omega)).1 (by omega);rw [Bx (dT c4),a1,sbd];dsimp only;rw [b1,sbd,ckb (by omega)];dsimp only;rw [q1,sbd];exact ⟨.un x a b t,p',by dsimp only;rw [G7];rfl,⟨by simp only [okT];exact ⟨.inr ⟨by omega,by omega,by omega,by omega,by omega⟩,q2.ok⟩,by have:=q2.size;simp only [T.size];omega,by have:=q2.depth;simp only [T.depth];omega,by omega,fun hr=>q2.ray hr⟩,q3⟩
    rw [An (dF c4)];obtain ⟨t,p',q1,q2,q3⟩:=(ih e (by omega) F l hl (by omega) (by omega)).2 (by omega);obtain ⟨t2,p2,r1,r2,r3⟩:=(ih e (by omega) F p' q3 (by omega) (by omega)).2 (by omega);rw [q1,sbd,ckb (by omega)];dsimp only;rw [r1,sbd];exact ⟨.bin x t t2,p2,by dsimp only;rw [G7,G7];rfl,⟨by simp only [okT];exact .inr ⟨by omega,by omega,q2.ok,r2.ok⟩,by have:=q2.size;have:=r2.size;simp only [T.size];omega,by have:=q2.depth;have:=r2.depth;simp only [T.depth];omega,by omega,fun hr=>⟨q2.ray hr,r2.ray hr⟩⟩,r3⟩
   show ∃t p',Di F (Bp F) (Cw F) p (e+1:Nat) ray=_∧_;unfold Di;obtain ⟨a,pa,a1,a2,a3,a4⟩:=P9 hp F (n:=13) (by omega);rw [a1,sbd,ckb (by omega)];dsimp only
   by_cases c:((e+1:Nat):Int)<3∧1+a<8
   ·obtain ⟨b,pb,b1,b2,b3,b4⟩:=P9 a4 F (n:=6) (by omega);rw [Bx (by rw [dT c.1,dT c.2];rfl),b1,sbd,ckb (by omega)];exact k1 pb _ b4 (by omega) (by omega)
   ·rw [An (by rw [←Bool.not_eq_true];intro hc;exact c (A6u.1 hc))];exact k1 pa _ a4 (by omega) (by omega)
  ·intro h1;obtain ⟨e,rfl⟩:∃e,d=e+1:=⟨d-1,by omega⟩;have hpw:2 ^ (e+1)=2 ^ e+2 ^ e:=by rw [Nat.pow_succ];omega
   have hpos:1≤2 ^ e:=Nat.one_le_two_pow;have hdm:((e+1:Nat):Int)-1=(e:Int):=by omega
   show ∃t p',F2 F (Bp F) (Cw F) p (e+1:Nat) ray=_∧_;have k1:∀(y:Int×List Int) (x:Int),Q6 y.2→14≤x∧x≤27→(e+1<2→x<25)→(e+1<4→x≠25)→(ray=false→x≠22)→∃t p',C6 F (Bp F) (Cw F) (e+1:Nat) ray y x=some (t.node,p')∧Mean false ray (e+1) t∧Q6 p':=by
    intro y x hl hx hx2 hx4 hxr;unfold C6
    by_cases c1:x=14
    ·obtain ⟨b,pb,b1,b2,b3,b4⟩:=P9 hl F (n:=256) (by omega);rw [Bx (eqT c1),b1,sbd];exact ⟨.leaf x b,pb,rfl,⟨by simp only [okT];omega,by simp only [T.size];omega,by simp only [T.depth];omega,fun _=>by simp only [T.op];omega,fun _=>by simp only [T.noRay];omega⟩,b4⟩
    rw [An (eqF c1)]
    by_cases c2:x=25
    ·obtain ⟨a,pa,a1,a2,a3,a4⟩:=P9 hl F (n:=3) (by omega);obtain ⟨b,pb,b1,b2,b3,b4⟩:=P9 a4 F (n:=3) (by omega);obtain ⟨t,p',q1,q2,q3⟩:=(ih e (by omega) F pb b4 (by omega) (by omega)).1 (by omega);rw [Bx (eqT c2),a1,sbd];dsimp only;rw [b1,sbd,hdm,ckb (by omega)];dsimp only;rw [q1,sbd];exact ⟨.un x a b t,p',by dsimp only;rw [G7];rfl,⟨by simp only [okT];exact ⟨⟨c2,by omega,by omega,by omega,by omega⟩,q2.ok⟩,by have:=q2.size;simp only [T.size];omega,by have:=q2.depth;simp only [T.depth];omega,fun _=>by simp only [T.op];omega,fun hr=>q2.ray hr⟩,q3⟩
    rw [An (eqF c2)];have k2:∀c:Bool,(c=true↔x=26∨x=27)→∃t p',D7 (Cw F) (e+1:Nat) ray y x c=some (t.node,p')∧Mean false ray (e+1) t∧Q6 p':=by
     intro c hc;unfold D7
     by_cases c3:x=26∨x=27
     ·have he:1≤e:=by omega
      have hp2:=A2e he;obtain ⟨t2,p2,r1,r2,r3⟩:=(ih 1 (by omega) F y.2 hl (by omega) (by omega)).2 (by omega);obtain ⟨t,p',q1,q2,q3⟩:=(ih e (by omega) F p2 r3 (by omega) (by omega)).2 he;rw [Bx (hc.2 c3),show Cw F y.2 1 ray=_ from r1,sbd,hdm,ckb (by omega)];dsimp only;rw [q1,sbd];exact ⟨.bin x t t2,p',by dsimp only;rw [G7,G7];rfl,⟨by simp only [okT];exact ⟨c3,q2.ok,r2.ok,r2.one rfl⟩,by have:=q2.size;have:=r2.size;simp only [T.size];omega,by have:=q2.depth;have:=r2.depth;simp only [T.depth];omega,by omega,fun hr=>⟨q2.ray hr,r2.ray hr⟩⟩,q3⟩
     ·rw [An (by rw [←Bool.not_eq_true];intro h;exact c3 (hc.1 h))];exact ⟨.leaf x 0,y.2,rfl,⟨by show (x=14∧(0:Int)≤0∧(0:Int)≤1000000000)∨(15≤x∧x≤24∧(0:Int)=0);omega,by simp only [T.size];omega,by simp only [T.depth];omega,fun _=>by simp only [T.op];omega,fun hr=>hxr hr⟩,hl⟩
    by_cases c3:x=26
    ·rw [Bx (eqT c3)];exact k2 _ (by rw [beq_iff_eq];omega)
    ·rw [An (eqF c3)];exact k2 _ (by rw [beq_iff_eq];omega)
   unfold F2;obtain ⟨a,pa,a1,a2,a3,a4⟩:=P9 hp F (n:=14) (by omega);rw [a1,sbd,ckb (by omega)];dsimp only;have key:∀c:Bool,(c=true→True)→(c=false→(e+1<2→14+a<25)∧(e+1<4→14+a≠25)∧(ray=false→14+a≠22))→∃t p',(bif c then C6 F (Bp F) (Cw F) (e+1:Nat) ray (a,pa) 14 else C6 F (Bp F) (Cw F) (e+1:Nat) ray (a,pa) (14+a))=some (t.node,p')∧Mean false ray (e+1) t∧Q6 p':=by
    intro c _ hc
    cases c
    ·obtain ⟨z1,z2,z3⟩:=hc rfl;exact k1 (a,pa) (14+a) a4 (by omega) z1 z2 z3
    ·exact k1 (a,pa) 14 a4 (by omega) (by omega) (by omega) (by omega)
   refine key _ (fun _=>trivial) fun hc=>?_;have o1:∀{x y:Bool},(bif x then true else y)=false→x=false∧y=false:=by intro x y;cases x<;>cases y<;>simp
   obtain ⟨h1,h2⟩:=o1 hc;obtain ⟨h3,h4⟩:=o1 h1;refine ⟨fun hx=>?_,fun hx=>?_,fun hx=>?_⟩
   ·rw [Bx (dT (by omega))] at h4;have:=of_decide_eq_false h4;omega
   ·rw [Bx (dT (by omega))] at h2;intro e;rw [eqT e] at h2;cases h2
   ·subst hx;intro e;rw [eqT e] at h3;cases h3
end Go.Proofs.YtkjnafecmjakcaaGreatDoor
namespace Go.Proofs.YtkjnafecmjakcaaGreatDoor
open Go Go.RowKit Go.Eng
set_option maxRecDepth 10000
set_option linter.unusedVariables false
set_option linter.unusedSimpArgs false
def nms:List ByteArray:=[(⟨#[97]⟩:ByteArray),(⟨#[98,49]⟩:ByteArray),(⟨#[99,95]⟩:ByteArray),(⟨#[100,100,100,100,100,100,100,100,100,100,100,100]⟩:ByteArray)]
theorem A51:[(⟨#[97]⟩:ByteArray),(⟨#[98,49]⟩:ByteArray),(⟨#[99,95]⟩:ByteArray),(⟨#[100,100,100,100,100,100,100,100,100,100,100,100]⟩:ByteArray)]=nms:=rfl
structure MeanR (ray:Bool) (L:List (ByteArray×T)):Prop where
 len:L.length≤4
 names:∀(i:Nat) p,L[i]? = some p→nms[i]? = some p.1
 trees:∀p∈L,Mean true ray 5 p.2
theorem A48:∀p∈nms,∀F,30≤F→beam_Name F p=some true∧sift_word F p=some false:=by
 intro p hp F hF;obtain ⟨F,rfl⟩:∃G,F=G+30:=⟨F-30,by omega⟩;simp only [nms,List.mem_cons,List.not_mem_nil,or_false] at hp;rcases hp with rfl|rfl|rfl|rfl<;>exact ⟨rfl,rfl⟩
theorem A52:∀(i j:Nat) (p q:ByteArray),nms[i]? = some p→nms[j]? = some q→i<j→p≠q:=by
 have key:∀i:Fin 4,∀j:Fin 4,i.val<j.val→nms[i.val]?≠nms[j.val]?:=by decide
 intro i j p q h1 h2 hij e;have a:=(List.getElem?_eq_some_iff.1 h1).1;have b:=(List.getElem?_eq_some_iff.1 h2).1;exact key ⟨i,a⟩ ⟨j,b⟩ hij (by show nms[i]? = nms[j]?;rw [h1,h2,e])
theorem MeanR.good {ray:Bool} {L:List (ByteArray×T)} (h:MeanR ray L):GoodR L:=by
 have hs:∀M:List (ByteArray×T),(∀p∈M,Mean true ray 5 p.2)→(M.map (·.2.size)).sum≤31*M.length:=by
  intro M
  induction M with
  | nil=>simp
  | cons p M ih =>
   intro hM;have h1:=(hM p (by simp)).size;have h2:=ih fun q hq=>hM q (by simp [hq]);rw [List.map_cons,List.sum_cons,List.length_cons];omega
 refine ⟨by have:=h.len;omega,?_,?_,?_,?_⟩
 ·have:=hs L h.trees;have:=h.len;omega
 ·intro p hp F hF;obtain ⟨i,hi,e⟩:=List.mem_iff_getElem.1 hp;have:=h.names i p (by rw [List.getElem?_eq_getElem hi,e]);exact A48 _ (List.mem_of_getElem? this) F hF
 ·intro i j p q h1 h2 hij;exact A52 i j _ _ (h.names i p h1) (h.names j q h2) hij
 ·intro p hp;have:=h.trees p hp;exact ⟨this.ok,by have:=this.depth;omega⟩
theorem Y9 {p:List Int} (hp:Q6 p) {n:Int} (hn:0≤n∧n<256) (ray:Bool) {F:Nat} (hF:20≤F) :
  ∃L p',Ew F p n ray=some (rl L,p')∧MeanR ray L∧L.length=(n%5).toNat:=by
 have hn5:0≤n%5∧n%5<5:=⟨Int.emod_nonneg _ (by omega),Int.emod_lt_of_pos _ (by omega)⟩;have go:∀(k:Nat) (j:Nat) (l:List Int) (L:List (ByteArray×T)),Q6 l→MeanR ray L→L.length=j→(n%5).toNat+1≤k+j→j≤(n%5).toNat →
   ∃L' p',Es F ray (n%5) k l j (rl L)=some (rl L',p')∧MeanR ray L'∧L'.length=(n%5).toNat:=by
  intro k
  induction k with
  | zero=>intro j l L _ _ _ h1 h2;omega
  | succ k ih =>
   intro j l L hl hL hj h1 h2;show ∃L' p',Er F ray (n%5) _ l j (rl L)=_∧_;unfold Er;rw [A51]
   by_cases c:(j:Int)<n%5
   ·have hj4:j<4:=by omega
    obtain ⟨nm,hnm⟩:∃nm,nms[j]? = some nm:=⟨nms[j]'(by simp [nms];omega),List.getElem?_eq_getElem (by simp [nms];omega)⟩;obtain ⟨t,p',q1,q2,q3⟩:=(A3l ray 5 F l hl (by omega) (by omega)).1 (by omega);rw [Bx (dT c),Hs j nm rfl hnm,show Bp F l 5 ray=_ from q1,sbd];dsimp only;rw [G7,show apd 72 (rl L) [⟨nm,t.node⟩]=some (rl (L++[(nm,t)])) by
     unfold apd;rw [if_pos (by rw [Kt];simp;omega)];simp [rl,rlN],sbd,ckb (by omega)]
    refine ih (j+1) p' _ q3 ⟨by simp;omega,fun i q hq=>?_,fun q hq=>?_⟩ (by simp;omega) (by omega) (by omega)
    ·by_cases hi:i<L.length
     ·rw [List.getElem?_append_left hi] at hq;exact hL.names i q hq
     ·obtain ⟨h5,h6⟩:=List.getElem?_eq_some_iff.1 hq;have:i=j:=by simp at h5;omega
      subst this;rw [←hj,List.getElem?_append_right (by omega),Nat.sub_self] at hq
      cases hq;exact hnm
    ·rcases List.mem_append.1 hq with hq|hq
     ·exact hL.trees q hq
     ·rw [List.mem_singleton] at hq;subst hq;exact q2
   ·rw [An (dF c)];exact ⟨L,l,rfl,hL,by omega⟩
 unfold Ew;rw [ckb (by omega),Zu hn.1 (by omega)];exact go F 0 p [] hp ⟨by simp,fun i q hq=>by simp at hq,fun q hq=>by simp at hq⟩ rfl (by omega) (by omega)
end Go.Proofs.YtkjnafecmjakcaaGreatDoor
namespace Go.Proofs.YtkjnafecmjakcaaGreatDoor
open Go Go.RowKit Go.Eng
set_option maxRecDepth 10000
set_option linter.unusedVariables false
set_option linter.unusedSimpArgs false
theorem A0r {l:List Int} (hl:Q6 l) (F:Nat) {i n:Int} (hi:0≤i) (hn:1≤n):∃x,Gr F l i n=some x∧0≤x∧x<n:=by
 unfold Gr
 by_cases h:l.length=0
 ·exact ⟨0,by rw [Bx (eqT (by omega))],by omega,by omega⟩
 ·have h1:0≤i%(l.length:Int)∧i%(l.length:Int)<(l.length:Int):=⟨Int.emod_nonneg _ (by omega),Int.emod_lt_of_pos _ (by omega)⟩;have h2:(i%(l.length:Int)).toNat<l.length:=by omega
  have hb:=hl _ (List.getElem_mem h2);refine ⟨l[(i%(l.length:Int)).toNat]%n,?_,Int.emod_nonneg _ (by omega),Int.emod_lt_of_pos _ (by omega)⟩;rw [An (eqF (by omega)),Zu hi (by omega),Hs (i%(l.length:Int)).toNat _ (by omega) (List.getElem?_eq_getElem h2),ckb (by omega),Zu hb.1 hn]
end Go.Proofs.YtkjnafecmjakcaaGreatDoor
namespace Go.Proofs.YtkjnafecmjakcaaGreatDoor
open Go Go.RowKit Go.Eng
set_option maxRecDepth 10000
set_option linter.unusedVariables false
set_option linter.unusedSimpArgs false
end Go.Proofs.YtkjnafecmjakcaaGreatDoor
namespace Go.Proofs.YtkjnafecmjakcaaGreatDoor
open Go Go.RowKit Go.Eng
set_option maxRecDepth 10000
set_option linter.unusedVariables false
set_option linter.unusedSimpArgs false
theorem Y4 {x y:Bool} (h1:x=false) (h2:y=false):(bif x then true else y)=false:=by rw [h1,h2];rfl
section
variable {f:sift_Node→Option sift_Node} {p u v u' v':sift_Node} {n:Nat}
end
section
variable {f:sift_Node→Option Bool} {p u v:sift_Node} {n:Nat}
end
section
variable {f:sift_Node→sift_Node→Option Bool} {p u v:sift_Node} {n:Nat}
theorem A6r (h:p.Args=[]):By f p p (n+1) 0=some true:=by
 show Bi f p p _ 0=_;unfold Bi;rw [h,An (dF (by simp))];rfl
theorem A6s (h:p.Args=[u]) (hu:f u u=some true):By f p p (n+2) 0=some true:=by
 show Bi f p p _ 0=_;unfold Bi;rw [h,Bx (dT (by simp)),Xy,Xy,hu,sbd,An (c:=!true) rfl,ckb (by omega)];show Bi f p p _ (0+1)=_;unfold Bi;rw [h,An (dF (by simp))];rfl
theorem A6t (h:p.Args=[u,v]) (hu:f u u=some true) (hv:f v v=some true):By f p p (n+3) 0=some true:=by
 show Bi f p p _ 0=_;unfold Bi;rw [h,Bx (dT (by simp)),Xy,Xy,hu,sbd,An (c:=!true) rfl,ckb (by omega)];show Bi f p p _ (0+1)=_;unfold Bi;rw [h,Bx (dT (by simp)),Hs (i:=0+1) 1 v rfl rfl,Hs (i:=0+1) 1 v rfl rfl,hv,sbd,An (c:=!true) rfl,ckb (by omega)];show Bi f p p _ (0+1+1)=_;unfold Bi;rw [h,An (dF (by simp))];rfl
end
theorem V4 {F:Nat} {f:sift_Node→sift_Node→Option Bool} {p:sift_Node} (h:By f p p F 0=some true):Ej F f p p=some true:=by
 unfold Ej;rw [An (Y4 (Y4 (Y4 (Y4 (neF rfl) (neF rfl)) (neF rfl)) (neF rfl)) (neF rfl)),h]
theorem A12:∀(t:T) (F:Nat),t.size+5≤F→Ck F t.node t.node=some true:=by
 intro t
 induction t with
 | leaf op v =>
  intro F hF;obtain ⟨F,rfl⟩:∃G,F=G+2:=⟨F-2,by omega⟩;exact V4 (F:=F+1) (A6r rfl)
 | un op r g a ih =>
  intro F hF;simp only [T.size] at hF;obtain ⟨F,rfl⟩:∃G,F=G+3:=⟨F-3,by omega⟩;exact V4 (F:=F+2) (A6s rfl (ih (F+2) (by omega)))
 | bin op a b iha ihb =>
  intro F hF;simp only [T.size] at hF;obtain ⟨F,rfl⟩:∃G,F=G+4:=⟨F-4,by omega⟩;exact V4 (F:=F+3) (A6t rfl (iha (F+3) (by omega)) (ihb (F+3) (by omega)))
theorem A3q (s:ByteArray):sEq s s=true:=dT rfl
theorem Xt {L:List (ByteArray×T)} (h:GoodR L) {F:Nat} (hF:2000≤F):Fl F (rl L) (rl L)=some true:=by
 have hlen:=h.len;have go:∀(n j:Nat),L.length+1≤n+j→j≤L.length→Gj F (rl L) (rl L) n j=some true:=by
  intro n
  induction n with
  | zero=>intro j h1 h2;omega
  | succ n ih =>
   intro j h1 h2;show Fu F (rl L) (rl L) _ j=_;unfold Fu;rw [Kt]
   by_cases hj:j<L.length
   ·have hp:=List.getElem?_eq_getElem hj;have hm:=List.getElem_mem hj;generalize L[j]=p at hp hm;have hsz:=Nat.le_trans (V2 hm) h.size;rw [Bx (dT (by omega)),Hs j _ rfl (Mw hp),Hs j _ rfl (Mw hp),A3q,An (c:=!true) rfl,Hs j _ rfl (Mw hp),Hs j _ rfl (Mw hp),show Ck F (rlN p).When (rlN p).When=some true from A12 p.2 F (by omega),sbd,An (c:=bif !true then true else !true) rfl,ckb (by omega)];exact ih (j+1) (by omega) (by omega)
   ·rw [An (dF (by omega))];rfl
 unfold Fl;rw [An (neF rfl)];exact go F 0 (by omega) (by omega)
end Go.Proofs.YtkjnafecmjakcaaGreatDoor
namespace Go.Proofs.YtkjnafecmjakcaaGreatDoor
open Go Go.RowKit Go.Eng
set_option maxRecDepth 10000
set_option linter.unusedVariables false
set_option linter.unusedSimpArgs false
theorem Wq {l:List Int} (h:∀y∈l,0≤y∧y≤255):Q6 l:=fun y hy=>by have:=h y hy;omega
theorem A4b {n:Int} (h:0≤n∧n≤255):0≤n∧n<256:=by omega
end Go.Proofs.YtkjnafecmjakcaaGreatDoor
namespace Go.Proofs.YtkjnafecmjakcaaGreatDoor
open Go Go.RowKit Go.Eng
set_option maxRecDepth 10000
set_option linter.unusedVariables false
set_option linter.unusedSimpArgs false
theorem exk {ε α β:Type} {x:α} {f:ε→β} {g:α→β}:exc (.ok x) f g=g x:=rfl
def Str (B:Nat):List ByteArray→sift_reader→Prop
 | [],r=>r.token=tb []∧(r.s.size:Int)≤r.from_
 | t::ts,r=>r.token=t∧r.from_<(r.s.size:Int)∧∃r',(∀G,B≤G→Ae G r=some r')∧Str B ts r'
def P1:T→List ByteArray
 | .leaf op v=>[tb (if op=14 then Lib.itoa v else wd op)]
 | .un op r g a=>if op=3 then tb (wd 3)::P1 a else tb (wd op)::tb (Lib.itoa r)::tb (Lib.itoa g)::P1 a
 | .bin op a b=>if op<14 then tb [40]::(P1 a++tb (wd op)::(P1 b++[tb [41]])) else P1 a++tb (wd op)::P1 b
theorem A1p {L:List ByteArray} {p:ByteArray} (hL:L.length≤100) (h:∀x∈L,sEq p x=false):∀(n j:Nat),L.length+1≤n+j→j≤L.length→C2 L p n j=some (-1):=by
 intro n
 induction n with
 | zero=>intro j h1 h2;omega
 | succ n ih =>
  intro j h1 h2;show Cl L p _ j=_;unfold Cl
  by_cases hj:j<L.length
  ·rw [Bx (dT (by omega)),Hs j _ rfl (List.getElem?_eq_getElem hj),An (h _ (List.getElem_mem hj)),ckb (by omega)];exact ih (j+1) (by omega) (by omega)
  ·rw [An (dF (by omega))];rfl
theorem A0y:∀x∈Bm.1,∀c∈x.data.toList.head?,Uo c=false:=by decide
theorem Xu {l:List UInt8} (hl:∃c r,l=c::r∧Uo c=true) {F:Nat} (hF:30≤F) {a b:Int} (hab:0≤a∧a≤b+1∧b≤27):Eg F (tb l) a b=some 0:=by
 obtain ⟨c,r,rfl,hc⟩:=hl;unfold Eg;have hlen:Bm.1.length=28:=Bm.2;rw [ckb (by omega),show Qw Bm.1 a (b+1)=some ((Bm.1.drop a.toNat).take ((b+1).toNat-a.toNat)) by unfold Qw;rw [if_pos (by omega)],sbd];unfold E6;rw [show C2 ((Bm.1.drop a.toNat).take ((b+1).toNat-a.toNat)) (tb (c::r)) F 0=some (-1) from A1p (by simp [hlen];omega) (by
  intro x hx;have h1:=A0y x (List.mem_of_mem_drop (List.mem_of_mem_take hx));unfold sEq;refine dF fun e=>?_;have e2:x.data.toList=c::r:=by rw [←e];simp [tb]
  rw [e2] at h1;have:=h1 c rfl;rw [hc] at this;cases this) F 0 (by simp [hlen];omega) (by omega),sbd,An (c:=bif decide ((-1:Int)≥0) then (!sEq (tb (c::r)) (⟨#[]⟩:ByteArray)) else false) rfl]
theorem A1i {F:Nat} (hF:30≤F):Eg F (tb [40]) 1 7=some 0:=by
 obtain ⟨F,rfl⟩:∃G,F=G+30:=⟨F-30,by omega⟩;rfl
theorem Vc {F:Nat} (hF:30≤F) {op:Int} (h:op=1∨op=2∨op=3∨op=6∨op=7):Eg F (tb (wd op)) 1 7=some op:=by
 obtain ⟨F,rfl⟩:∃G,F=G+30:=⟨F-30,by omega⟩;rcases h with rfl|rfl|rfl|rfl|rfl<;>rfl
theorem Zj {op:Int} (h:15≤op∧op≤25):op=15∨op=16∨op=17∨op=18∨op=19∨op=20∨op=21∨op=22∨op=23∨op=24∨op=25:=by omega
theorem T8 {F:Nat} (hF:30≤F) {op:Int} (h:15≤op∧op≤25):Eg F (tb (wd op)) 1 7=some 0∧Eg F (tb (wd op)) 15 25=some op:=by
 obtain ⟨F,rfl⟩:∃G,F=G+30:=⟨F-30,by omega⟩;rcases Zj h with rfl|rfl|rfl|rfl|rfl|rfl|rfl|rfl|rfl|rfl|rfl<;>exact ⟨rfl,rfl⟩
theorem A18 {op:Int} (h:8≤op∧op≤13):op=8∨op=9∨op=10∨op=11∨op=12∨op=13:=by omega
theorem A1j {F:Nat} (hF:30≤F) {op:Int} (h:8≤op∧op≤13):Eg F (tb (wd op)) 8 13=some op:=by
 obtain ⟨F,rfl⟩:∃G,F=G+30:=⟨F-30,by omega⟩;rcases A18 h with rfl|rfl|rfl|rfl|rfl|rfl<;>rfl
theorem A2q {F:Nat} {r r':sift_reader} {t:ByteArray} (ht:r.token=t) (hn:Ae F r=some r'):Ci F r t=some (true,r'):=by
 unfold Ci;rw [An (by rw [V1.2 ht];rfl),hn];rfl
theorem A5q {F:Nat} {r:sift_reader} {t:ByteArray} (ht:sEq r.token t=false):Ci F r t=some (false,r):=by
 unfold Ci;rw [Bx (by rw [ht];rfl)]
theorem X7 {F:Nat} {r r':sift_reader} {t:ByteArray} (ht:r.token=t) (hn:Ae F r=some r'):Ch F r t=some (.ok r'):=by
 unfold Ch;rw [A2q ht hn,sbd];dsimp only;rw [An (c:=!true) rfl]
theorem Te (b:UInt8) (l:List UInt8) (c:UInt8):Lib.indexByte (b::l) c=if b==c then 0 else if Lib.indexByte l c == -1 then -1 else Lib.indexByte l c+1:=rfl
theorem X4 {c:UInt8}:∀{l:List UInt8},c∉l→Lib.indexByte l c=-1:=by
 intro l
 induction l with
 | nil=>intro _;rfl
 | cons b l ih =>
  intro h;rw [Te,if_neg (by simp only [beq_iff_eq];rintro rfl;exact h (by simp)),if_pos (by rw [ih fun h2=>h (by simp [h2])];rfl)]
theorem A1o {c:UInt8} {b:List UInt8}:∀{a:List UInt8},c∉a→Lib.indexByte (a++c::b) c=a.length:=by
 intro a
 induction a with
 | nil=>intro _;rw [List.nil_append,Te,if_pos (by simp)];rfl
 | cons d a ih =>
  intro h;rw [List.cons_append,Te,if_neg (by simp only [beq_iff_eq];rintro rfl;exact h (by simp)),ih fun h2=>h (by simp [h2]),if_neg (by simp only [beq_iff_eq];omega),List.length_cons];omega
theorem X3 {l:List UInt8} {c:UInt8} (h:c∈l):0≤Lib.indexByte l c:=by
 induction l with
 | nil=>cases h
 | cons b l ih =>
  rw [Te]
  split
  ·omega
  ·rename_i h1
   have h2:c∈l:=by
    rcases List.mem_cons.1 h with e|e
    ·exact absurd (by simp [e]) h1
    ·exact e
   have:=ih h2;rw [if_neg (by simp only [beq_iff_eq];omega)];omega
theorem A39 {l:List UInt8} {c:UInt8}:decide (0≤Lib.indexByte l c)=decide (c∈l):=by
 by_cases h:c∈l
 ·rw [dT h,dT (X3 h)]
 ·rw [dF h,dF (by rw [X4 h];omega)]
theorem Wy {c:UInt8} (h:Uo c=true):c∈[48,49,50,51,52,53,54,55,56,57]:=by
 have key:∀n:Fin 256,Uo (UInt8.ofNat n.val)=true→UInt8.ofNat n.val∈([48,49,50,51,52,53,54,55,56,57]:List UInt8):=by decide
 have:=key ⟨c.toNat,c.toNat_lt⟩;simp only [UInt8.ofNat_toNat] at this;exact this h
theorem Ww {l:List UInt8} {a b:Nat} (h:a≤b) (hb:b≤l.length):Ei (tb l) a b=some (tb ((l.drop a).take (b-a))):=by
 unfold Ei;rw [if_pos (by rw [E7];omega),Int.toNat_natCast,Int.toNat_natCast]
 congr 1
 apply ByteArray.ext;apply Array.toList_inj.1;simp [tb,ByteArray.data_extract,List.extract_eq_take_drop]
theorem Wv {c:UInt8} {r:List UInt8}:Ei (tb (c::r)) 0 1=some (tb [c]):=Ww (a:=0) (b:=1) (by omega) (by simp)
theorem A30 {c:UInt8} (h:Uo c=true) (F:Nat):Am F (⟨#[48,49,50,51,52,53,54,55,56,57]⟩:ByteArray) (tb [c])=some true:=by
 show some (decide (0≤Lib.indexByte [48,49,50,51,52,53,54,55,56,57] c))=some true;rw [dT (X3 (Wy h))]
theorem A33 {c:UInt8} (h:Uo c=true):IntKind.u8.wrap ((c.toNat:Int)-48)=(c.toNat-48:Nat)∧c.toNat-48≤9:=by
 unfold Uo at h;simp only [Bool.and_eq_true,decide_eq_true_eq] at h;refine ⟨?_,by omega⟩;rw [show IntKind.u8.wrap ((c.toNat:Int)-48)=((c.toNat:Int)-48)%256 from rfl,Int.emod_eq_of_lt (by omega) (by omega)];omega
theorem A38:∀(l:List UInt8) (x:Nat),x≤l.foldl (fun a c=>10*a+(c.toNat-48)) x:=by
 intro l
 induction l with
 | nil=>intro x;exact Nat.le_refl _
 | cons c l ih=>intro x;have:=ih (10*x+(c.toNat-48));rw [List.foldl_cons];omega
theorem A22 {F:Nat} {most:Int} (hm:0≤most∧most≤1000000000) {l:List UInt8} (hl:∀c∈l,Uo c=true) (hlen:l.length≤100) {s tok:ByteArray} {x4 x5:Int} {r':sift_reader} (hn:Ae F ⟨s,x4,tok,x5⟩=some r') :
  ∀(n j x:Nat),l.length+1≤n+j→j≤l.length→((l.drop j).foldl (fun a c=>10*a+(c.toNat-48)) x:Nat)≤most →
   Dz F most (l.map fun c=>(c.toNat:Int)) n s x4 tok x5 j x=some (.ok ((((l.drop j).foldl (fun a c=>10*a+(c.toNat-48)) x:Nat):Int),r')):=by
 intro n
 induction n with
 | zero=>intro j x h1 h2;omega
 | succ n ih =>
  intro j x h1 h2 h3;show Dx F most _ _ s x4 tok x5 j x=_;unfold Dx;rw [List.length_map]
  by_cases hj:j<l.length
  ·have hg:(l.map fun c=>(c.toNat:Int))[j]? = some ((l[j]).toNat:Int):=by rw [List.getElem?_map,List.getElem?_eq_getElem hj];rfl
   have hd:=hl _ (List.getElem_mem hj);obtain ⟨w1,w2⟩:=A33 hd;rw [List.drop_eq_getElem_cons hj,List.foldl_cons] at h3 ⊢;have hge:=A38 (l.drop (j+1)) (10*x+((l[j]).toNat-48));rw [Bx (dT (by omega)),Hs j _ rfl hg,ckb (by omega),w1,ckb (by omega),ckb (by omega),An (dF (by omega))];unfold Dy;rw [ckb (by omega)];have:=ih (j+1) (10*x+((l[j]).toNat-48)) (by omega) (by omega) h3;rw [show ((10*x+((l[j]).toNat-48):Nat):Int)=10*(x:Int)+(((l[j]).toNat-48:Nat):Int) by omega] at this;exact this
  ·rw [An (dF (by omega)),show j=l.length by omega,List.drop_length];unfold F3;rw [hn];rfl
theorem A5j (l:List UInt8):sby (tb l)=l.map fun c=>(c.toNat:Int):=by simp [sby,tb]
theorem A2k {β:Type} {l:List UInt8} (h:l.length≤1000000) {f:List Int→Option β}:(s2b (tb l)).bind f=f (l.map fun c=>(c.toNat:Int)):=by
 unfold s2b;rw [if_pos (by rw [E7];omega),sbd,A5j]
theorem Sk {F:Nat} (hF:30≤F) {most v:Int} (hm:most≤1000000000) (hv:0≤v∧v≤most) {r r':sift_reader} (ht:r.token=tb (Lib.itoa v)) (hn:Ae F r=some r'):Da F r most=some (.ok (v,r')):=by
 obtain ⟨c,q,e,hc⟩:=Kx hv.1;obtain ⟨u,rfl⟩:∃u:Nat,v=u:=⟨v.toNat,by omega⟩;have hdg:∀c∈Lib.itoa (u:Int),Uo c=true:=by rw [Lib.itoa_nonneg];exact Wx u
 have hval:(Lib.itoa (u:Int)).foldl (fun a c=>10*a+(c.toNat-48)) 0=u:=by rw [Lib.itoa_nonneg];exact A31 u
 have hlen:=Pw (v:=(u:Int)) ⟨hv.1,by omega⟩;unfold Da;have hne:sEq r.token (⟨#[]⟩:ByteArray)=false:=by
  rw [ht,show (⟨#[]⟩:ByteArray)=tb [] from rfl,Sq];exact dF (by rw [e];simp)
 rw [An hne,ht,e,Wv,sbd,A30 hc,sbd,An (c:=!true) rfl,←e];unfold D8;rw [A2k (by omega)];have hn':Ae F ⟨r.s,r.at_,tb (Lib.itoa (u:Int)),r.from_⟩=some r':=by rw [←ht];exact hn
 have:=A22 (F:=F) (most:=most) ⟨by omega,hm⟩ hdg (by omega) hn' F 0 0 (by omega) (by omega) (by rw [List.drop_zero,hval];omega);rw [List.drop_zero,hval] at this;exact this
def sel (ops:List Int) (t:ByteArray) (x:Int):Int:=ops.foldl (fun x o=>if sEq t (tb (wd o))=true then o else x) x
theorem A3s (t:ByteArray) (x:Int):sel [] t x=x:=rfl
section
variable {F:Nat} {P:Aa} {ops:List Int}
theorem A45 (hops:∀o∈ops,0≤o∧o≤27) (hl:ops.length≤10) {op v rr g:Int} {args:List sift_Node} {s tok:ByteArray} {x4 x5:Int} {k1:Int→Int→Int→Int→List sift_Node→ByteArray→Int→ByteArray→Int→Option (Except (Value×sift_reader) (sift_Node×sift_reader))}
  {L:Nat→Int→Int→Option (Except (Value×sift_reader) (sift_Node×sift_reader))} (hL:L=Aq F P ops op v rr g args s x4 tok x5 k1) :
  ∀(n j:Nat) (x:Int),ops.length+1≤n+j→j≤ops.length→L n j x=Ca F P op v rr g args s x4 tok x5 k1 (sel (ops.drop j) tok x):=by
 have step:∀n x y,L (n+1) x y=C0 F P ops op v rr g args s x4 tok x5 k1 (L n) x y:=by
  intro n x y;rw [hL];rfl
 intro n
 induction n with
 | zero=>intro j x h1 h2;omega
 | succ n ih =>
  intro j x h1 h2;rw [step];unfold C0 D2
  by_cases hj:j<ops.length
  ·have ho:=hops _ (List.getElem_mem hj);have e:sel (ops.drop j) tok x=sel (ops.drop (j+1)) tok (if sEq tok (tb (wd ops[j]))=true then ops[j] else x):=by
    rw [List.drop_eq_getElem_cons hj];rfl
   have hi1:=ih (j+1) x (by omega) (by omega);have hi2:=ih (j+1) ops[j] (by omega) (by omega);rw [show ((j+1:Nat):Int)=(j:Int)+1 by omega] at hi1 hi2;rw [Bx (dT (by omega)),Hs j _ rfl (List.getElem?_eq_getElem hj),wdb ho,e]
   cases hs:sEq tok (tb (wd ops[j]))
   ·rw [An rfl,ckb (by omega),hi1,if_neg (by decide)]
   ·rw [Bx rfl,ckb (by omega),hi2,if_pos rfl]
  ·rw [An (dF (by omega)),List.drop_eq_nil_of_le (by omega),A3s]
def lfL (F:Nat) (P:Aa) (ops:List Int) (m:Nat) (n:sift_Node) (r:sift_reader):Option (Except (Value×sift_reader) (sift_Node×sift_reader)) :=
 B3 F P ops m n.Op n.Value_ n.Rays n.Gates n.Args r.s r.at_ r.token r.from_
theorem S3 (hF:20≤F) (hops:∀o∈ops,0≤o∧o≤27) (hl:ops.length≤10) {m:Nat} {n:sift_Node} {r:sift_reader} (h:sel ops r.token 0=0):lfL F P ops (m+1) n r=some (.ok (n,r)):=by
 show Aq F P ops _ _ _ _ _ _ _ _ _ _ F 0 0=_;rw [show Aq F P ops n.Op n.Value_ n.Rays n.Gates n.Args r.s r.at_ r.token r.from_ (B3 F P ops m) F 0 0=_ from A45 hops hl rfl F 0 0 (by omega) (by omega),List.drop_zero,h];unfold Ca;rw [Bx (eqT rfl),G7]
theorem A1v (hF:20≤F) (hops:∀o∈ops,0≤o∧o≤27) (hl:ops.length≤10) {m:Nat} {n b:sift_Node} {r r2 r3:sift_reader} {o:Int} (h:sel ops r.token 0=o) (ho:o≠0) (hn:Ae F r=some r2) (hb:P r2=some (.ok (b,r3))) :
  lfL F P ops (m+1) n r=lfL F P ops m ⟨o,0,0,0,[n,b]⟩ r3:=by
 show Aq F P ops _ _ _ _ _ _ _ _ _ _ F 0 0=_;rw [show Aq F P ops n.Op n.Value_ n.Rays n.Gates n.Args r.s r.at_ r.token r.from_ (B3 F P ops m) F 0 0=_ from A45 hops hl rfl F 0 0 (by omega) (by omega),List.drop_zero,h];unfold Ca;rw [An (eqF ho),show Ae F ⟨r.s,r.at_,r.token,r.from_⟩=some r2 from hn,sbd,hb,sbd,exk];dsimp only;rw [G7,G7];rfl
theorem Vi {a:sift_Node} {r r1:sift_reader} (h:P r=some (.ok (a,r1))):Av F P r ops=lfL F P ops F a r1:=by
 unfold Av;rw [h,sbd,exk];rfl
theorem A3f {r:sift_reader}:Dj F P r ops=Av F (Ao F P) r ops:=by
 have h3:∀op v rr g args s x4 tok x5 k1 n j x,Bz F P ops op v rr g args s x4 tok x5 k1 n j x=Aq F (Ao F P) ops op v rr g args s x4 tok x5 k1 n j x:=by
  intro op v rr g args s x4 tok x5 k1 n
  induction n with
  | zero=>intro j x;rfl
  | succ n ih =>
   intro j x;show Dr F P ops op v rr g args s x4 tok x5 k1 (Bz F P ops op v rr g args s x4 tok x5 k1 n) j x=C0 F (Ao F P) ops op v rr g args s x4 tok x5 k1 (Aq F (Ao F P) ops op v rr g args s x4 tok x5 k1 n) j x;rw [show Bz F P ops op v rr g args s x4 tok x5 k1 n=Aq F (Ao F P) ops op v rr g args s x4 tok x5 k1 n from funext fun j=>funext fun x=>ih j x];rfl
 have h1:∀n,C9 F P ops n=B3 F (Ao F P) ops n:=by
  intro n
  induction n with
  | zero=>rfl
  | succ n ih =>
   funext op v rr g args s x4 tok x5
   show Dq F P ops (C9 F P ops n) op v rr g args s x4 tok x5=D1 F (Ao F P) ops (B3 F (Ao F P) ops n) op v rr g args s x4 tok x5;rw [ih];exact h3 op v rr g args s x4 tok x5 _ F 0 0
 unfold Dj Av;rw [h1]
theorem A3g {r:sift_reader}:Cb F P r ops=Av F (Ap F P) r ops:=by
 have h3:∀op v rr g args s x4 tok x5 k1 n j x,C1 F P ops op v rr g args s x4 tok x5 k1 n j x=Aq F (Ap F P) ops op v rr g args s x4 tok x5 k1 n j x:=by
  intro op v rr g args s x4 tok x5 k1 n
  induction n with
  | zero=>intro j x;rfl
  | succ n ih =>
   intro j x;show Dv F P ops op v rr g args s x4 tok x5 k1 (C1 F P ops op v rr g args s x4 tok x5 k1 n) j x=C0 F (Ap F P) ops op v rr g args s x4 tok x5 k1 (Aq F (Ap F P) ops op v rr g args s x4 tok x5 k1 n) j x;rw [show C1 F P ops op v rr g args s x4 tok x5 k1 n=Aq F (Ap F P) ops op v rr g args s x4 tok x5 k1 n from funext fun j=>funext fun x=>ih j x];rfl
 have h1:∀n,Cc F P ops n=B3 F (Ap F P) ops n:=by
  intro n
  induction n with
  | zero=>rfl
  | succ n ih =>
   funext op v rr g args s x4 tok x5
   show Du F P ops (Cc F P ops n) op v rr g args s x4 tok x5=D1 F (Ap F P) ops (B3 F (Ap F P) ops n) op v rr g args s x4 tok x5;rw [ih];exact h3 op v rr g args s x4 tok x5 _ F 0 0
 unfold Cb Av;rw [h1]
theorem Xo {r r1:sift_reader} {n:sift_Node} (h:Av F P r [4]=some (.ok (n,r1))):Ao F P r=some (.ok (n,r1)):=by
 unfold Ao;rw [h,sbd,exk];dsimp only;rw [G7]
theorem Xp {r r1:sift_reader} {n:sift_Node} (h:Av F (Ao F P) r [5]=some (.ok (n,r1))):Cg F P r=some (.ok (n,r1)):=by
 unfold Cg;rw [A3f,h,sbd,exk];dsimp only;rw [G7]
theorem A5c:∀o∈([4]:List Int),0≤o∧o≤27:=by decide
theorem A5d:∀o∈([5]:List Int),0≤o∧o≤27:=by decide
theorem A29:∀o∈([26,27]:List Int),0≤o∧o≤27:=by decide
theorem Uu (hF:20≤F) {r r1:sift_reader} {n:sift_Node} (hP:P r=some (.ok (n,r1))) (h1:sel [4] r1.token 0=0):Ao F P r=some (.ok (n,r1)):=by
 obtain ⟨m,hm⟩:∃m,F=m+1:=⟨F-1,by omega⟩;refine Xo ?_;rw [Vi hP];have:=S3 (P:=P) (m:=m) (n:=n) (r:=r1) hF A5c (by decide) h1
 rwa [←hm] at this
theorem A2x (hF:20≤F) {r r1 r2 r3:sift_reader} {a b:sift_Node} (hP:P r=some (.ok (a,r1))) (h1:sel [4] r1.token 0=4) (hn:Ae F r1=some r2) (hb:P r2=some (.ok (b,r3))) (h3:sel [4] r3.token 0=0):Ao F P r=some (.ok (⟨4,0,0,0,[a,b]⟩,r3)):=by
 obtain ⟨m,hm⟩:∃m,F=m+1+1:=⟨F-2,by omega⟩;refine Xo ?_;rw [Vi hP];have:=A1v (P:=P) (m:=m+1) (n:=a) (r:=r1) hF A5c (by decide) h1 (by decide) hn hb;rw [←hm] at this;rw [this];exact S3 hF A5c (by decide) h3
theorem V8 (hF:20≤F) {r r1:sift_reader} {n:sift_Node} (hP:Ao F P r=some (.ok (n,r1))) (h1:sel [5] r1.token 0=0):Cg F P r=some (.ok (n,r1)):=by
 obtain ⟨m,hm⟩:∃m,F=m+1:=⟨F-1,by omega⟩;refine Xp ?_;rw [Vi hP];have:=S3 (P:=Ao F P) (m:=m) (n:=n) (r:=r1) hF A5d (by decide) h1
 rwa [←hm] at this
theorem A1a (hF:20≤F) {r r1 r2 r3:sift_reader} {a b:sift_Node} (hP:Ao F P r=some (.ok (a,r1))) (h1:sel [5] r1.token 0=5) (hn:Ae F r1=some r2) (hb:Ao F P r2=some (.ok (b,r3))) (h3:sel [5] r3.token 0=0):Cg F P r=some (.ok (⟨5,0,0,0,[a,b]⟩,r3)):=by
 obtain ⟨m,hm⟩:∃m,F=m+1+1:=⟨F-2,by omega⟩;refine Xp ?_;rw [Vi hP];have:=A1v (P:=Ao F P) (m:=m+1) (n:=a) (r:=r1) hF A5d (by decide) h1 (by decide) hn hb;rw [←hm] at this;rw [this];exact S3 hF A5d (by decide) h3
end
end Go.Proofs.YtkjnafecmjakcaaGreatDoor
namespace Go.Proofs.YtkjnafecmjakcaaGreatDoor
open Go Go.RowKit Go.Eng
set_option maxRecDepth 10000
set_option linter.unusedVariables false
set_option linter.unusedSimpArgs false
theorem Str.hd {B:Nat} {t:ByteArray} {ts:List ByteArray} {r:sift_reader} (h:Str B (t::ts) r):r.token=t:=h.1
theorem Str.nx {B:Nat} {t:ByteArray} {ts:List ByteArray} {r:sift_reader} (h:Str B (t::ts) r):∃r',(∀G,B≤G→Ae G r=some r')∧Str B ts r':=h.2.2
theorem A2t:∀(t:T),okT false t→∃tok rest,P1 t=tok::rest∧(∀F,30≤F→Eg F tok 1 7=some 0)∧sEq tok (tb [40])=false:=by
 intro t
 induction t with
 | leaf op v =>
  intro h;simp only [okT] at h;refine ⟨_,_,rfl,?_,?_⟩
  ·intro F hF
   split
   ·exact Xu (Kx (by omega)) hF (by omega)
   ·exact (T8 hF (by omega)).1
  ·split
   ·obtain ⟨c,r,e,hc⟩:=Kx (v:=v) (by omega);rw [Sq,e];refine dF fun e2=>?_;rw [(List.cons.inj e2).1] at hc;cases hc
   ·rcases Zj (op:=op) (by omega) with rfl|rfl|rfl|rfl|rfl|rfl|rfl|rfl|rfl|rfl|rfl<;>rfl
 | un op r g a =>
  intro h;simp only [okT] at h;obtain ⟨⟨rfl,-⟩,-⟩:=h;exact ⟨tb (wd 25),_,rfl,fun F hF=>(T8 hF (by omega)).1,rfl⟩
 | bin op a b iha =>
  intro h;simp only [okT] at h;obtain ⟨tok,rest,e,h1,h2⟩:=iha h.2.1;exact ⟨tok,rest++tb (wd op)::P1 b,by simp only [P1,if_neg (show ¬op<14 by omega),e,List.cons_append],h1,h2⟩
theorem V5 {B F:Nat} (hF:B+40≤F) {P:Aa} {op rr g:Int} (hr:0≤rr∧rr≤3) (hg:0≤g∧g≤3) {n:sift_Node} {ts us:List ByteArray} {r:sift_reader}
  (hP:∀r,Str B us r→∃r',P r=some (.ok (n,r'))∧Str B ts r') (h:Str B (tb (Lib.itoa rr)::tb (Lib.itoa g)::us) r) :
  ∃r',E8 F P r op=some (.ok (⟨op,0,rr,g,[n]⟩,r'))∧Str B ts r':=by
 obtain ⟨r1,n1,s1⟩:=h.nx;obtain ⟨r2,n2,s2⟩:=s1.nx;obtain ⟨r3,p3,s3⟩:=hP r2 s2;refine ⟨r3,?_,s3⟩;unfold E8;rw [Sk (by omega) (by omega) hr h.hd (n1 F (by omega)),sbd,exk];dsimp only;rw [Sk (r:=⟨r1.s,r1.at_,r1.token,r1.from_⟩) (by omega) (by omega) hg s1.hd (n2 F (by omega)),sbd,exk];dsimp only;rw [show P ⟨r2.s,r2.at_,r2.token,r2.from_⟩=_ from p3,sbd,exk];dsimp only;rw [G7]
theorem Zr {F:Nat} {P:Aa} {ops:List Int} {r:sift_reader}:Cb F P r ops=Av F (Ap F P) r ops:=A3g
theorem A5f {B F:Nat} (hF:B+40≤F) {P:Aa} {n:sift_Node} {ts us:List ByteArray} {r:sift_reader} (h:Str B (tb [40]::us) r)
  (hc:∀r,Str B us r→∃r',Cg F P r=some (.ok (n,r'))∧Str B (tb [41]::ts) r'):∃r',Be F P r=some (.ok (n,r'))∧Str B ts r':=by
 obtain ⟨r1,n1,s1⟩:=h.nx;obtain ⟨r2,c2,s2⟩:=hc r1 s1;obtain ⟨r3,n3,s3⟩:=s2.nx;refine ⟨r3,?_,s3⟩;unfold Be;rw [h.hd,A1i (by omega),sbd,An (eqF (by decide))];unfold Bt;rw [An (eqF (by decide)),An (eqF (by decide)),An (eqF (by decide))];unfold Cm;rw [An (eqF (by decide)),show Ci F r (⟨#[40]⟩:ByteArray)=some (true,r1) from A2q h.hd (n1 F (by omega)),sbd];dsimp only;rw [Bx rfl,show Cg F P ⟨r1.s,r1.at_,r1.token,r1.from_⟩=_ from c2,sbd,exk];dsimp only;rw [show Ch F ⟨r2.s,r2.at_,r2.token,r2.from_⟩ (⟨#[41]⟩:ByteArray)=some (.ok r3) from X7 s2.hd (n3 F (by omega)),sbd,exk,G7]
theorem A0u {op:Int} (h:8≤op∧op≤13):sel [26,27] (tb (wd op)) 0=0:=by
 rcases A18 h with rfl|rfl|rfl|rfl|rfl|rfl<;>rfl
theorem A2a {B:Nat}:∀(t:T),
  (okT true t→∀ts r F,Str B (P1 t++ts) r→B+2*t.size+40≤F→∃r',Au F r=some (.ok (t.node,r'))∧Str B ts r') ∧
  (okT false t→∀ts r F,Str B (P1 t++ts) r→B+2*t.size+40≤F→(t.op<26→∃r',Ap F (Au F) r=some (.ok (t.node,r'))∧Str B ts r') ∧
   ∃r' m,F≤m+t.size∧Av F (Ap F (Au F)) r [26,27]=lfL F (Ap F (Au F)) [26,27] m t.node r'∧Str B ts r'):=by
 intro t;have itm:∀(u:T) ts r F,(∃r',Ap F (Au F) r=some (.ok (u.node,r'))∧Str B ts r')→∃r' m,F≤m+u.size∧Av F (Ap F (Au F)) r [26,27]=lfL F (Ap F (Au F)) [26,27] m u.node r'∧Str B ts r':=by
  rintro u ts r F ⟨r',h1,h2⟩;exact ⟨r',F,by omega,Vi h1,h2⟩
 induction t with
 | leaf op v =>
  constructor
  ·intro ho ts r F hs hF;simp only [okT] at ho;obtain ⟨h12,rfl⟩:=ho;simp only [P1,if_neg (show op≠14 by omega),List.cons_append,List.nil_append] at hs;obtain ⟨r1,n1,s1⟩:=hs.nx;obtain ⟨F,rfl⟩:∃G,F=G+1:=⟨F-1,by omega⟩;refine ⟨r1,?_,s1⟩;show Be F (Au F) r=_;unfold Be;rw [hs.hd,Vc (by omega) (by omega),sbd];unfold Bt;rcases h12 with rfl|rfl
   ·rw [Bx (eqT rfl),Bx (eqT rfl),n1 F (by omega)];rfl
   ·rw [An (eqF (by decide)),Bx (eqT rfl),n1 F (by omega)];rfl
  ·intro ho ts r F hs hF;simp only [okT] at ho;have key:∃r',Ap F (Au F) r=some (.ok ((T.leaf op v).node,r'))∧Str B ts r':=by
    by_cases h14:op=14
    ·subst h14;simp only [P1,if_pos,List.cons_append,List.nil_append] at hs;obtain ⟨r1,n1,s1⟩:=hs.nx;refine ⟨r1,?_,s1⟩;unfold Ap;rw [hs.hd,Xu (Kx (v:=v) (by omega)) (by omega) (by omega),sbd,Bx (eqT rfl),Sk (v:=v) (by omega) (by omega) (by omega) hs.hd (n1 F (by omega)),sbd,exk];rfl
    ·obtain ⟨h1,h2,rfl⟩:=ho.resolve_left (by omega);simp only [P1,if_neg h14,List.cons_append,List.nil_append] at hs;obtain ⟨r1,n1,s1⟩:=hs.nx;refine ⟨r1,?_,s1⟩;unfold Ap;rw [hs.hd,(T8 (by omega) ⟨h1,by omega⟩).2,sbd,An (eqF (by omega)),An (eqF (by omega)),n1 F (by omega)];rfl
   exact ⟨fun _=>key,itm _ _ _ _ key⟩
 | un op rr g a ih =>
  constructor
  ·intro ho ts r F hs hF;simp only [okT] at ho;simp only [T.size] at hF;obtain ⟨F,rfl⟩:∃G,F=G+1:=⟨F-1,by omega⟩;rcases ho.1 with ⟨rfl,rfl,rfl⟩|⟨hop,h1,h2,h3,h4⟩
   ·simp only [P1,if_pos,List.cons_append] at hs;obtain ⟨r1,n1,s1⟩:=hs.nx;obtain ⟨r2,p2,s2⟩:=ih.1 ho.2 ts r1 F s1 (by omega);refine ⟨r2,?_,s2⟩;show Be F (Au F) r=_;unfold Be;rw [hs.hd,Vc (by omega) (by omega),sbd,An (eqF (by decide))];unfold Bt;rw [An (eqF (by decide)),Bx (eqT rfl),n1 F (by omega),sbd,p2,sbd,exk];dsimp only;rw [G7];rfl
   ·have h3':op≠3:=by omega
    simp only [P1,if_neg h3',List.cons_append] at hs;obtain ⟨r1,n1,s1⟩:=hs.nx;obtain ⟨r2,p2,s2⟩:=V5 (F:=F) (P:=Au F) (op:=op) (n:=a.node) (by omega) ⟨h1,h2⟩ ⟨h3,h4⟩ (fun r hr=>ih.1 ho.2 ts r F hr (by omega)) s1;refine ⟨r2,?_,s2⟩;show Be F (Au F) r=_;unfold Be;rw [hs.hd,Vc (by omega) (by omega),sbd];unfold Bt Cm;rcases hop with rfl|rfl
    ·rw [An (eqF (by decide)),An (eqF (by decide)),An (eqF (by decide)),Bx (eqT rfl),Bx (eqT rfl),n1 F (by omega),sbd,p2,sbd,exk];rfl
    ·rw [An (eqF (by decide)),An (eqF (by decide)),An (eqF (by decide)),An (eqF (by decide)),Bx (eqT rfl),n1 F (by omega),sbd,p2,sbd,exk];rfl
  ·intro ho ts r F hs hF;simp only [okT] at ho;simp only [T.size] at hF;obtain ⟨⟨rfl,h1,h2,h3,h4⟩,h5⟩:=ho;have key:∃r',Ap F (Au F) r=some (.ok ((T.un 25 rr g a).node,r'))∧Str B ts r':=by
    simp only [P1,if_neg (show (25:Int)≠3 by omega),List.cons_append] at hs;obtain ⟨r1,n1,s1⟩:=hs.nx;obtain ⟨r2,p2,s2⟩:=V5 (F:=F) (P:=Au F) (op:=25) (n:=a.node) (by omega) ⟨h1,h2⟩ ⟨h3,h4⟩ (fun r hr=>ih.1 h5 ts r F hr (by omega)) s1;refine ⟨r2,?_,s2⟩;unfold Ap;rw [hs.hd,(T8 (by omega) ⟨by omega,by omega⟩).2,sbd,An (eqF (by decide)),Bx (eqT rfl),n1 F (by omega),sbd,p2,sbd,exk];rfl
   exact ⟨fun _=>key,itm _ _ _ _ key⟩
 | bin op a b iha ihb =>
  constructor
  ·intro ho ts r F hs hF;simp only [okT] at ho;simp only [T.size] at hF;obtain ⟨F,rfl⟩:∃G,F=G+1:=⟨F-1,by omega⟩;have h14:op<14:=by omega
   simp only [P1,if_pos h14,List.cons_append,List.append_assoc,List.nil_append] at hs;show ∃r',Be F (Au F) r=_∧_;refine A5f (by omega) hs fun r1 s1=>?_;rcases ho with ⟨hop,oa,ob⟩|⟨o1,o2,oa,ob⟩
   ·obtain ⟨r2,p2,s2⟩:=iha.1 oa _ r1 F s1 (by omega);obtain ⟨r3,n3,s3⟩:=s2.nx;obtain ⟨r4,p4,s4⟩:=ihb.1 ob _ r3 F s3 (by omega);refine ⟨r4,?_,s4⟩;rcases hop with rfl|rfl
    ·exact V8 (by omega) (A2x (by omega) p2 (by rw [s2.hd];rfl) (n3 F (by omega)) p4 (by rw [s4.hd];rfl)) (by rw [s4.hd];rfl)
    ·exact A1a (by omega) (Uu (by omega) p2 (by rw [s2.hd];rfl)) (by rw [s2.hd];rfl) (n3 F (by omega)) (Uu (by omega) p4 (by rw [s4.hd];rfl)) (by rw [s4.hd];rfl)
   ·obtain ⟨F,rfl⟩:∃G,F=G+1:=⟨F-1,by omega⟩;obtain ⟨-,r2,m2,hm2,p2,s2⟩:=iha.2 oa _ r1 F s1 (by omega);obtain ⟨r3,n3,s3⟩:=s2.nx;obtain ⟨-,r4,m4,hm4,p4,s4⟩:=ihb.2 ob _ r3 F s3 (by omega);obtain ⟨m2,rfl⟩:∃m,m2=m+1:=⟨m2-1,by omega⟩;obtain ⟨m4,rfl⟩:∃m,m4=m+1:=⟨m4-1,by omega⟩;rw [S3 (by omega) A29 (by decide) (by rw [s2.hd];exact A0u ⟨o1,o2⟩)] at p2;rw [S3 (by omega) A29 (by decide) (by rw [s4.hd];rfl)] at p4;obtain ⟨tok,rest,e,f1,f2⟩:=A2t a oa;have htok:r1.token=tok:=by rw [e] at s1;exact s1.hd
    have hp:Au (F+1) r1=some (.ok ((T.bin op a b).node,r4)):=by
     show Be F (Au F) r1=_;unfold Be;rw [htok,f1 F (by omega),sbd,An (eqF (by decide))];unfold Bt;rw [An (eqF (by decide)),An (eqF (by decide)),An (eqF (by decide))];unfold Cm;rw [An (eqF (by decide)),show Ci F r1 (⟨#[40]⟩:ByteArray)=some (false,r1) from A5q (by rw [htok];exact f2),sbd];dsimp only;rw [An rfl,Zr,show Av F (Ap F (Au F)) ⟨r1.s,r1.at_,r1.token,r1.from_⟩ [26,27]=_ from p2,sbd,exk];dsimp only;rw [s2.hd,A1j (by omega) ⟨o1,o2⟩,sbd,An (eqF (by omega))];unfold E0;rw [←s2.hd,show Ae F ⟨r2.s,r2.at_,r2.token,r2.from_⟩=some r3 from n3 F (by omega),sbd,Zr,p4,sbd,exk];dsimp only;rw [G7,G7];rfl
    exact ⟨r4,V8 (by omega) (Uu (by omega) hp (by rw [s4.hd];rfl)) (by rw [s4.hd];rfl),s4⟩
  ·intro ho ts r F hs hF;simp only [okT] at ho;simp only [T.size] at hF;obtain ⟨hop,oa,ob,hb⟩:=ho;have h14:¬op<14:=by omega
   simp only [P1,if_neg h14,List.append_assoc,List.cons_append] at hs;refine ⟨fun h=>by simp only [T.op] at h;omega,?_⟩;obtain ⟨-,r1,m1,hm1,p1,s1⟩:=iha.2 oa _ r F hs (by omega);obtain ⟨r2,n2,s2⟩:=s1.nx;obtain ⟨r3,p3,s3⟩:=(ihb.2 ob _ r2 F s2 (by omega)).1 hb;obtain ⟨m1,rfl⟩:∃m,m1=m+1:=⟨m1-1,by omega⟩;refine ⟨r3,m1,by simp only [T.size];omega,?_,s3⟩;have hsel:sel [26,27] r1.token 0=op:=by rw [s1.hd];rcases hop with rfl|rfl<;>rfl
   rw [p1,A1v (by omega) A29 (by decide) hsel (by omega) (n2 F (by omega)) p3];rfl
def Wk (L:List (ByteArray×T)):List ByteArray:=L.flatMap fun p=>p.1::tb [58]::(P1 p.2++[tb [59]])
theorem A20:∀p∈nms,sEq p (⟨#[]⟩:ByteArray)=false∧p.size≤12∧∀F,∃q,Ei p 0 1=some q∧Am F (⟨#[97,98,99,100,101,102,103,104,105,106,107,108,109,110,111,112,113,114,115,116,117,118,119,120,121,122]⟩:ByteArray) q=some true:=by
 intro p hp;simp only [nms,List.mem_cons,List.not_mem_nil,or_false] at hp;rcases hp with rfl|rfl|rfl|rfl
 ·exact ⟨rfl,by decide,fun F=>⟨tb [97],rfl,rfl⟩⟩
 ·exact ⟨rfl,by decide,fun F=>⟨tb [98],rfl,rfl⟩⟩
 ·exact ⟨rfl,by decide,fun F=>⟨tb [99],rfl,rfl⟩⟩
 ·exact ⟨rfl,by decide,fun F=>⟨tb [100],rfl,rfl⟩⟩
theorem Z9 {B F:Nat} {ray:Bool} {L:List (ByteArray×T)} (hL:MeanR ray L) (hF:B+2000≤F) {r0 r:sift_reader} (hn:Ae F r0=some r) (hs:Str B (Wk L) r) :
  ∃r',Ed F r0=some (.ok (rl L,r')):=by
 have hll:=hL.len;have go:∀(n j:Nat) (r:sift_reader),L.length+1≤n+j→j≤L.length→Str B (Wk (L.drop j)) r→∃r',Dd F n r.s r.at_ r.token r.from_ (rl (L.take j))=some (.ok (rl L,r')):=by
  intro n
  induction n with
  | zero=>intro j r h1 h2;omega
  | succ n ih =>
   intro j r h1 h2 h3;show ∃r',Eb F (Dd F n) r.s r.at_ r.token r.from_ (rl (L.take j))=_;unfold Eb
   by_cases hj:j<L.length
   ·have hx:=List.getElem?_eq_getElem hj;have hmem:=List.getElem_mem hj;have htk:L.take (j+1)=L.take j++[L[j]]:=by rw [List.take_add_one,hx];rfl
    rw [List.drop_eq_getElem_cons hj] at h3;generalize L[j]=p at hx hmem htk h3;have hnm:p.1∈nms:=List.mem_of_getElem? (hL.names j p hx);obtain ⟨w1,w2,w3⟩:=A20 p.1 hnm;obtain ⟨q,w4,w5⟩:=w3 F;have w6:=(A48 p.1 hnm F (by omega)).2;have hsz:=(hL.trees p hmem).size;simp only [Wk,List.flatMap_cons,List.cons_append,List.append_assoc,List.nil_append] at h3;obtain ⟨r1,n1,s1⟩:=h3.nx;obtain ⟨r2,n2,s2⟩:=s1.nx;obtain ⟨r3,p3,s3⟩:=(A2a p.2).1 (hL.trees p hmem).ok _ r2 F s2 (by omega);obtain ⟨r4,n4,s4⟩:=s3.nx;have hlt:r.from_<(r.s.size:Int):=h3.2.1;have htok:r.token=p.1:=h3.hd;rw [Bx (dT hlt),An (by rw [htok];exact w1),show Ei r.token 0 1=some q by rw [htok];exact w4,sbd,w5,sbd,gdT (g:=(!true)==false&&true) rfl,show sift_word F r.token=some false by rw [htok];exact w6,sbd,
     An (c:=bif (bif (!true) then true else false) then true else (decide (((r.token.size:Nat):Int)>12))) (by rw [htok,dF (show ¬((p.1.size:Int)>12) by omega)];rfl)]
    unfold Dc;rw [show Ae F ⟨r.s,r.at_,r.token,r.from_⟩=some r1 from n1 F (by omega),sbd,show Ch F r1 (⟨#[58]⟩:ByteArray)=some (.ok r2) from X7 s1.hd (n2 F (by omega)),sbd,exk,
     V8 (by omega) (Uu (by omega) p3 (by rw [s3.hd];rfl)) (by rw [s3.hd];rfl),sbd,exk]
    dsimp only;rw [show Ch F ⟨r3.s,r3.at_,r3.token,r3.from_⟩ (⟨#[59]⟩:ByteArray)=some (.ok r4) from X7 s3.hd (n4 F (by omega)),sbd,exk,G7,htok,
     show apd 72 (rl (L.take j)) [(⟨p.1,p.2.node⟩:sift_Rule)]=some (rl (L.take (j+1))) by
      unfold apd;rw [if_pos (by simp [rl];omega),htk];simp [rl,rlN],sbd]
    exact ih (j+1) r4 (by omega) (by omega) s4
   ·rw [List.drop_eq_nil_of_le (by omega)] at h3;have hge:(r.s.size:Int)≤r.from_:=h3.2;rw [An (dF (by omega)),List.take_of_length_le (by omega)];exact ⟨_,rfl⟩
 unfold Ed;rw [hn,sbd];have:=go F 0 r (by omega) (by omega) (by rw [List.drop_zero];exact hs);rw [List.take_zero] at this;exact this
end Go.Proofs.YtkjnafecmjakcaaGreatDoor
namespace Go.Proofs.YtkjnafecmjakcaaGreatDoor
open Go Go.RowKit Go.Eng
set_option maxRecDepth 10000
set_option linter.unusedVariables false
set_option linter.unusedSimpArgs false
def Uq:List UInt8:=[97,98,99,100,101,102,103,104,105,106,107,108,109,110,111,112,113,114,115,116,117,118,119,120,121,122]
def R5:List UInt8:=[48,49,50,51,52,53,54,55,56,57]
def A4e:List UInt8:=Uq++R5
def Zf:List UInt8:=Uq++R5++[95]
def A0v:List UInt8:=[60,62,61,43,45,40,41,58,59]
def spcs:List UInt8:=[32,9,10,13]
def Vf:List UInt8:=[32,9,10,13,35,40,41,58,59]
theorem S0 {β:Type} {l:List UInt8} {j:Nat} {c:UInt8} (h:l[j]? = some c) {f:Int→Option β}:(Tb (tb l) (j:Int)).bind f=f (c.toNat:Int):=by
 obtain ⟨h1,h2⟩:=List.getElem?_eq_some_iff.1 h;unfold Tb;rw [if_pos (by rw [E7];omega),sbd,Int.toNat_natCast]
 congr 2
 rw [getElem!_pos (tb l) j (by rw [E7];exact h1)];rw [←h2];rfl
theorem A1m {β:Type} {c:UInt8} {l:List UInt8} {f:Int→Option β}:(Tb (tb (c::l)) 0).bind f=f (c.toNat:Int):=S0 (j:=0) rfl
theorem Ru {l:List UInt8} {a:Nat} (h:a≤l.length):Ei (tb l) a (((tb l).size:Nat):Int)=some (tb (l.drop a)):=by
 rw [E7,Ww h (Nat.le_refl _),List.take_of_length_le (by simp)]
theorem Uv (F:Nat) (l:List UInt8) (c:UInt8):Am F (tb l) (tb [c])=some (decide (c∈l)):=by
 rw [←A39];rfl
theorem A00 (c:UInt8):((c.toNat:Int)).toNat.toUInt8=c:=by
 rw [Int.toNat_natCast];exact UInt8.ofNat_toNat
theorem A3t {set l:List UInt8} (hl:l.length≤1000000):∀(b:List UInt8) (n:Nat) (a:List UInt8),l=a++b→(b.takeWhile fun c=>decide (c∈set)).length+1≤n→Li (tb l) (tb set) n (a.length:Nat)=some (tb (a++b.takeWhile fun c=>decide (c∈set))):=by
 intro b
 induction b with
 | nil =>
  intro n a h hn;obtain ⟨n,rfl⟩:∃m,n=m+1:=⟨n-1,by simp at hn;omega⟩;show Hc (tb l) (tb set) _ _=_;unfold Hc Ng;rw [An (dF (by rw [E7,h];simp)),h];rfl
 | cons c b ih =>
  intro n a h hn;obtain ⟨n,rfl⟩:∃m,n=m+1:=⟨n-1,by omega⟩;show Hc (tb l) (tb set) _ _=_;unfold Hc;have hc:l[a.length]? = some c:=by rw [h];simp
  have hlen:l.length=a.length+(b.length+1):=by rw [h];simp
  rw [Bx (dT (by rw [E7];omega)),S0 hc]
  by_cases hm:c∈set
  ·have:¬Ba (tb set) (c.toNat:Int)<0:=by
    show ¬Lib.indexByte set ((c.toNat:Int)).toNat.toUInt8<0;rw [A00];have:=X3 hm;omega
   rw [An (dF this),ckb (by omega)];rw [List.takeWhile_cons_of_pos (by simp [hm])] at hn ⊢;have:=ih n (a++[c]) (by rw [h];simp) (by simp only [List.length_cons] at hn;omega);rw [List.length_append,List.length_singleton] at this;rw [show ((a.length:Nat):Int)+1=((a.length+1:Nat):Int) by omega,this];simp
  ·have:Ba (tb set) (c.toNat:Int)<0:=by
    show Lib.indexByte set ((c.toNat:Int)).toNat.toUInt8<0;rw [A00,X4 hm];omega
   rw [Bx (dT this),List.takeWhile_cons_of_neg (by simp [hm]),List.append_nil];rw [show Ei (tb l) 0 ((a.length:Nat):Int)=some (tb a) by
    have:=Ww (l:=l) (a:=0) (b:=a.length) (by omega) (by omega);rw [h] at this ⊢
    simpa using this]
   rfl
theorem Xh {set l:List UInt8} (hl:l.length≤1000000) {F:Nat} (hF:l.length+1≤F):Eh F (tb l) (tb set)=some (tb (l.takeWhile fun c=>decide (c∈set))):=by
 have:=A3t (set:=set) hl l F [] rfl (by
  have:(l.takeWhile fun c=>decide (c∈set)).length≤l.length:=(List.takeWhile_prefix _).sublist.length_le;omega)
 exact this
theorem A2r {set a r:List UInt8} (ha:∀c∈a,c∈set) (hr:∀y∈r.head?,y∉set):((a++r).takeWhile fun c=>decide (c∈set))=a:=by
 induction a with
 | nil =>
  cases r with
  | nil=>rfl
  | cons y r=>rw [List.nil_append,List.takeWhile_cons_of_neg (by simpa using hr y rfl)]
 | cons c a ih =>
  rw [List.cons_append,List.takeWhile_cons_of_pos (by simpa using ha c (by simp)),ih fun d hd=>ha d (by simp [hd])]
inductive White:List UInt8→Prop
 | nil:White []
 | sp {c w}:c∈spcs→White w→White (c::w)
 | cm {a w}:(10:UInt8)∉a→White (10::w)→White (35::(a++10::w))
theorem White.app {a b:List UInt8} (ha:White a) (hb:White b):White (a++b):=by
 induction ha with
 | nil=>exact hb
 | sp h _ ih=>exact .sp h ih
 | @cm a w h _ ih =>
  rw [List.cons_append,List.append_assoc];exact .cm h ih
theorem White.head {w:List UInt8} (h:White w):∀c∈w.head?,c∈Vf:=by
 cases h with
 | nil=>intro c hc;cases hc
 | @sp c w h _ =>
  intro d hd
  cases hd
  exact (by decide:∀y∈spcs,y∈Vf) c h
 | cm _ _=>intro d hd;cases hd;decide
theorem White.split {w:List UInt8} (h:White w):∃a w',w=a++w'∧(∀c∈a,c∈spcs)∧(w'=[]∨∃b w'',w'=35::(b++10::w'')∧(10:UInt8)∉b∧White (10::w'')):=by
 induction h with
 | nil=>exact ⟨[],[],rfl,by simp,.inl rfl⟩
 | @sp c w hc _ ih =>
  obtain ⟨a,w',rfl,h2,h3⟩:=ih;exact ⟨c::a,w',rfl,by simpa using ⟨hc,h2⟩,h3⟩
 | @cm a w h1 h2 _=>exact ⟨[],_,rfl,by simp,.inr ⟨a,w,rfl,h1,h2⟩⟩
def A2v (e:List UInt8):Prop:=e=[]∨∃b,e=35::b∧(10:UInt8)∉b
theorem A3u:(⟨#[32,9,10,13]⟩:ByteArray)=tb spcs:=rfl
theorem S6 {S a w':List UInt8} {x:Nat} (hS:S.length≤1000000) (hx:x≤S.length) (hd:S.drop x=a++w') (ha:∀c∈a,c∈spcs) (hw:∀y∈w'.head?,y∉spcs) {F:Nat} (hF:S.length+1≤F) {β:Type} {f:Int→Option β} :
  ((Ei (tb S) x (((tb S).size:Nat):Int)).bind fun s=>(Eh F s (⟨#[32,9,10,13]⟩:ByteArray)).bind fun y=>(ck ((x:Int)+((y.size:Nat):Int))).bind f)=f ((x+a.length:Nat):Int):=by
 have hl:(S.drop x).length≤S.length:=by simp
 rw [Ru hx,sbd,A3u,Xh (by omega) (by omega),sbd,hd,A2r ha hw,E7];have:a.length≤S.length:=by rw [hd] at hl;simp at hl;omega
 rw [ckb (by omega)]
 congr 1
theorem Ni {S a b:List UInt8} {x:Nat} (h:S.drop x=a++b):S.drop (x+a.length)=b:=by
 rw [←List.drop_drop,h,List.drop_left]
theorem Pu {S b:List UInt8} {x:Nat} (h:S.drop x=b) (hx:x≤S.length):S.length=x+b.length:=by rw [←h];simp;omega
theorem Xg {S:List UInt8} (hS:S.length≤1000000) {F:Nat} (hF:S.length+2≤F) {p:sift_reader} (hp:p.s=tb S) :
  ∀(n x:Nat) (w rest:List UInt8),x≤S.length→S.drop x=w++rest→White w→(∀y∈rest.head?,y∉spcs∧y≠35)→w.length+1≤n→Dk F p n x=some ⟨tb S,((x+w.length:Nat):Int),p.token,p.from_⟩:=by
 intro n
 induction n with
 | zero=>intro x w rest _ _ _ _ h;omega
 | succ n ih =>
  intro x w rest hx hd hw hr hn;show D3 F p _ _=_;unfold D3;rw [hp];obtain ⟨a,w',rfl,ha,hw'⟩:=hw.split;rw [List.append_assoc] at hd;have hlen:=Pu hd hx;simp only [List.length_append] at hlen hn;have hd2:=Ni hd;rcases hw' with rfl|⟨b,w'',rfl,hb,hww⟩
  ·rw [S6 hS hx hd ha (by rw [List.nil_append];exact fun y hy=>(hr y hy).1) (by omega),List.append_nil];rw [List.nil_append] at hd2 hd
   cases rest with
   | nil =>
    rw [Bx (eqT (by rw [E7];simp at hlen;omega)),Bx (by rw [eqT (show ((x+a.length:Nat):Int)=(((tb S).size:Nat):Int) by rw [E7];simp at hlen;omega)];rfl)]
   | cons y rest =>
    have hne:((x+a.length:Nat):Int)≠(((tb S).size:Nat):Int):=by rw [E7];simp at hlen;omega
    have hg:S[x+a.length]? = some y:=by rw [←List.head?_drop,hd2];rfl
    rw [An (eqF hne),S0 hg,Bx (by
     rw [eqF hne];have h35:=(hr y rfl).2;exact neT (fun e=>h35 (UInt8.toNat_inj.1 (by show y.toNat=35;omega))))]
  ·simp only [List.length_append,List.length_cons] at hlen hn;have hne:((x+a.length:Nat):Int)≠(((tb S).size:Nat):Int):=by rw [E7];omega
   have hg:S[x+a.length]? = some 35:=by rw [←List.head?_drop,hd2];rfl
   have hidx:Ba (tb (S.drop (x+a.length))) 10=((b.length+1:Nat):Int):=by
    show Lib.indexByte (S.drop (x+a.length)) 10=_;rw [hd2];have:=A1o (c:=10) (a:=35::b) (b:=w''++rest) (by simp only [List.mem_cons,not_or];exact ⟨by decide,hb⟩)
    simpa using this
   rw [S6 hS hx hd ha (by intro y hy;cases hy;decide) (by omega),An (eqF hne),S0 hg,An (by rw [eqF hne];rfl),Ru (by omega),sbd,hidx,Bx (dT (by omega)),ckb (by omega)]
   have hd3:S.drop (x+a.length+(b.length+1))=(10::w'')++rest:=by
    have:=Ni (S:=S) (a:=35::b) (b:=(10::w'')++rest) (x:=x+a.length) (by rw [hd2];simp)
    simpa using this
   have:=ih (x+a.length+(b.length+1)) (10::w'') rest (by omega) hd3 hww hr (by simp only [List.length_cons];omega);rw [show ((x+a.length:Nat):Int)+((b.length+1:Nat):Int)=((x+a.length+(b.length+1):Nat):Int) by omega,this];simp only [List.length_append,List.length_cons]
   congr 2
   omega
theorem A2m {S:List UInt8} (hS:S.length≤1000000) {F:Nat} (hF:S.length+2≤F) {p:sift_reader} (hp:p.s=tb S) :
  ∀(n x:Nat) (w e:List UInt8),x≤S.length→S.drop x=w++e→White w→A2v e→w.length+2≤n→Dk F p n x=some ⟨tb S,((S.length:Nat):Int),p.token,p.from_⟩:=by
 intro n
 induction n with
 | zero=>intro x w rest _ _ _ _ h;omega
 | succ n ih =>
  intro x w e hx hd hw he hn;rcases he with rfl|⟨c,rfl,hc⟩
  ·have:=Xg hS hF hp (n+1) x w [] hx hd hw (by simp) (by omega);rw [this];have hlen:=Pu hd hx;simp at hlen;rw [hlen]
  ·show D3 F p _ _=_;unfold D3;rw [hp];obtain ⟨a,w',rfl,ha,hw'⟩:=hw.split;rw [List.append_assoc] at hd;have hlen:=Pu hd hx;simp only [List.length_append,List.length_cons] at hlen hn;have hd2:=Ni hd;have hne:((x+a.length:Nat):Int)≠(((tb S).size:Nat):Int):=by rw [E7];omega
   rcases hw' with rfl|⟨b,w'',rfl,hb,hww⟩
   ·rw [List.nil_append] at hd2;have hg:S[x+a.length]? = some 35:=by rw [←List.head?_drop,hd2];rfl
    have hidx:Ba (tb (S.drop (x+a.length))) 10=-1:=by
     show Lib.indexByte (S.drop (x+a.length)) 10=_;rw [hd2];exact X4 (by simp only [List.mem_cons,not_or];exact ⟨by decide,hc⟩)
    rw [S6 hS hx hd ha (by intro y hy;cases hy;decide) (by omega),An (eqF hne),S0 hg,An (by rw [eqF hne];rfl),Ru (by omega),sbd,hidx,An (dF (by decide)),E7]
    obtain ⟨n,rfl⟩:∃m,n=m+1:=⟨n-1,by omega⟩;have:=Xg hS hF hp (n+1) S.length [] [] (by omega) (by simp) .nil (by simp) (by simp)
    simpa using this
   ·simp only [List.length_append,List.length_cons] at hlen hn;have hg:S[x+a.length]? = some 35:=by rw [←List.head?_drop,hd2];rfl
    have hidx:Ba (tb (S.drop (x+a.length))) 10=((b.length+1:Nat):Int):=by
     show Lib.indexByte (S.drop (x+a.length)) 10=_;rw [hd2];have:=A1o (c:=10) (a:=35::b) (b:=w''++35::c) (by simp only [List.mem_cons,not_or];exact ⟨by decide,hb⟩)
     simpa using this
    rw [S6 hS hx hd ha (by intro y hy;cases hy;decide) (by omega),An (eqF hne),S0 hg,An (by rw [eqF hne];rfl),Ru (by omega),sbd,hidx,Bx (dT (by omega)),ckb (by omega)]
    have hd3:S.drop (x+a.length+(b.length+1))=(10::w'')++35::c:=by
     have:=Ni (S:=S) (a:=35::b) (b:=(10::w'')++35::c) (x:=x+a.length) (by rw [hd2];simp)
     simpa using this
    have:=ih (x+a.length+(b.length+1)) (10::w'') (35::c) (by omega) hd3 hww (.inr ⟨c,rfl,hc⟩) (by simp only [List.length_cons];omega);rw [show ((x+a.length:Nat):Int)+((b.length+1:Nat):Int)=((x+a.length+(b.length+1):Nat):Int) by omega];exact this
end Go.Proofs.YtkjnafecmjakcaaGreatDoor
namespace Go.Proofs.YtkjnafecmjakcaaGreatDoor
open Go Go.RowKit Go.Eng
set_option maxRecDepth 10000
set_option linter.unusedVariables false
set_option linter.unusedSimpArgs false
def Kd (tok:List UInt8):Prop :=
 (∃c r,tok=c::r∧c∈Uq∧∀x∈r,x∈Zf)∨(∃v:Int,0≤v∧tok=Lib.itoa v)∨(tok=[60,61]∨tok=[62,61]∨tok=[33,61])∨∃c,tok=[c]∧c∈A0v
def Fr (tok:List UInt8):Prop:=tok=[40]∨tok=[41]∨tok=[58]∨tok=[59]
theorem Fr.no {tok:List UInt8} {c:UInt8} {r:List UInt8} (h:Fr tok) (e:tok=c::r):c∉Zf∧c∉R5∧c≠60∧c≠62∧c≠33:=by
 rcases h with h|h|h|h<;>(rw [h] at e;rw [←(List.cons.inj e).1];decide)
theorem Kd.ne {tok:List UInt8} (h:Kd tok):tok≠[]:=by
 rcases h with ⟨c,r,rfl,-⟩|⟨v,hv,rfl⟩|h|⟨c,rfl,-⟩
 ·simp
 ·obtain ⟨c,r,e,-⟩:=Kx hv;rw [e];simp
 ·rcases h with rfl|rfl|rfl<;>simp
 ·simp
def A0k (F:Nat) (s8:ByteArray) (K:ByteArray→Option sift_reader):Option sift_reader :=
 (Ei s8 0 1).bind fun s92 =>
 (Am F (⟨#[97,98,99,100,101,102,103,104,105,106,107,108,109,110,111,112,113,114,115,116,117,118,119,120,121,122]⟩:ByteArray) s92).bind fun y93 =>
 bif y93 then ((Eh F s8 (⟨#[97,98,99,100,101,102,103,104,105,106,107,108,109,110,111,112,113,114,115,116,117,118,119,120,121,122,48,49,50,51,52,53,54,55,56,57,95]⟩:ByteArray)).bind fun y94 =>
 K y94) else ((Tb s8 (0:Int)).bind fun u95 =>
 bif (u95==48) then (K (⟨#[48]⟩:ByteArray)) else ((Ei s8 0 1).bind fun s96 =>
 (Am F (⟨#[48,49,50,51,52,53,54,55,56,57]⟩:ByteArray) s96).bind fun y97 =>
 bif y97 then ((Eh F s8 (⟨#[48,49,50,51,52,53,54,55,56,57]⟩:ByteArray)).bind fun y98 =>
 K y98) else ((B0 F s8 (⟨#[60,61]⟩:ByteArray)).bind fun y99 =>
 (gd ((y99==false&&true)) (B0 F s8 (⟨#[62,61]⟩:ByteArray)) default).bind fun y100 =>
 (gd (((bif y99 then true else y100)==false&&true)) (B0 F s8 (⟨#[33,61]⟩:ByteArray)) default).bind fun y101 =>
 bif (bif (bif y99 then true else y100) then true else y101) then ((Ei s8 0 2).bind fun s102 =>
 K s102) else ((Ei s8 0 1).bind fun s103 =>
 (Am F (⟨#[60,62,61,43,45,40,41,58,59]⟩:ByteArray) s103).bind fun y104 =>
 bif y104 then ((Ei s8 0 1).bind fun s105 =>
 K s105) else (K (⟨#[]⟩:ByteArray))))))
theorem Wt (F:Nat) (c:UInt8):Am F (⟨#[97,98,99,100,101,102,103,104,105,106,107,108,109,110,111,112,113,114,115,116,117,118,119,120,121,122]⟩:ByteArray) (tb [c])=some (decide (c∈Uq)):=Uv F Uq c
theorem V9 (F:Nat) (c:UInt8):Am F (⟨#[48,49,50,51,52,53,54,55,56,57]⟩:ByteArray) (tb [c])=some (decide (c∈R5)):=Uv F R5 c
theorem A4k (F:Nat) (c:UInt8):Am F (⟨#[60,62,61,43,45,40,41,58,59]⟩:ByteArray) (tb [c])=some (decide (c∈A0v)):=Uv F A0v c
theorem A4j (F:Nat) (c:UInt8):Am F (⟨#[97,98,99,100,101,102,103,104,105,106,107,108,109,110,111,112,113,114,115,116,117,118,119,120,121,122,48,49,50,51,52,53,54,55,56,57]⟩:ByteArray) (tb [c])=some (decide (c∈A4e)):=Uv F A4e c
theorem A61 {c d:UInt8} {r:List UInt8}:Ei (tb (c::d::r)) 0 2=some (tb [c,d]):=Ww (a:=0) (b:=2) (by omega) (by simp)
theorem U6 (F:Nat) (l:List UInt8) (a:UInt8):B0 F (tb l) (tb [a,61])=some (decide (l.take 2=[a,61])):=by
 unfold B0 D6;rw [E7,E7]
 match l with
 | []=>rfl
 | [c]=>rw [An (dF (by simp only [List.length_cons,List.length_nil];omega)),dF (by simp)];rfl
 | c::d::r =>
  rw [Bx (dT (by simp only [List.length_cons,List.length_nil];omega)),show Ei (tb (c::d::r)) 0 ((([a,61]:List UInt8).length:Nat):Int)=some (tb [c,d]) from A61,sbd,Sq];rfl
theorem Uz:∀y∈Vf,y∉Zf∧y∉R5∧y≠61∧y∉A4e:=by decide
theorem A1t:∀y∈Uq,y∈Zf:=by decide
theorem A4n:∀y∈R5,y∉Uq:=by decide
theorem A5m:∀y∈A0v,y∉Uq∧y≠48∧y∉R5:=by decide
theorem A4o:∀y∈R5,y.toNat=48→y=48:=by decide
theorem A0j:∀(n:Nat),∀r,Lib.decDigits n=48::r→n=0:=by
 intro n
 induction n using Nat.strongRecOn with
 | _ n ih =>
  intro r h;rw [Lib.decDigits] at h
  split at h
  ·rename_i h10
   have h1:=(List.cons.inj h).1;have h2:(UInt8.ofNat (48+n)).toNat=48:=by rw [h1];rfl
   rw [UInt8.toNat_ofNat'] at h2;omega
  ·rename_i h10
   exfalso;obtain ⟨c,q,e,-⟩:=Kx (v:=((n/10:Nat):Int)) (by omega);rw [Lib.itoa_nonneg] at e;rw [e,List.cons_append] at h;have:=ih (n/10) (by omega) q (by rw [e,(List.cons.inj h).1]);omega
theorem A1u {F:Nat} {tok rest:List UInt8} (hk:Kd tok) (hr0:Fr tok∨∀y∈rest.head?,y∈Vf) (hl:(tok++rest).length≤1000000) (hF:(tok++rest).length+1≤F) {K:ByteArray→Option sift_reader}:A0k F (tb (tok++rest)) K=K (tb tok):=by
 unfold A0k;rcases hk with ⟨c,r,rfl,hc,hw⟩|⟨v,hv,rfl⟩|h2|⟨c,rfl,hc⟩
 ·have hr:=hr0.resolve_left fun h=>(h.no rfl).1 (A1t c hc);rw [List.cons_append,Wv,sbd,Wt,sbd,dT hc,Bx rfl];rw [show (⟨#[97,98,99,100,101,102,103,104,105,106,107,108,109,110,111,112,113,114,115,116,117,118,119,120,121,122,48,49,50,51,52,53,54,55,56,57,95]⟩:ByteArray)=tb Zf from rfl,show tb (c::(r++rest))=tb (c::r++rest) from rfl,Xh hl hF,sbd,A2r (a:=c::r) (by
   intro x hx;rcases List.mem_cons.1 hx with rfl|hx
   ·exact A1t _ hc
   ·exact hw _ hx) (fun y hy=>(Uz y (hr y hy)).1)]
 ·obtain ⟨u,rfl⟩:∃u:Nat,v=u:=⟨v.toNat,by omega⟩;have hdg:∀c∈Lib.itoa (u:Int),c∈R5:=fun c hc=>Wy (by rw [Lib.itoa_nonneg] at hc;exact Wx u c hc);obtain ⟨c,r,e,-⟩:=Kx hv;have hcd:c∈R5:=hdg c (by rw [e];simp);have hr:=hr0.resolve_left fun h=>(h.no e).2.1 hcd;have hz:c=48→Lib.itoa (u:Int)=[48]:=by
   rintro rfl;rw [Lib.itoa_nonneg] at e;have:=A0j u r e;subst this;rw [Lib.itoa_nonneg,Lib.decDigits,dif_pos (by omega)];rfl
  rw [e,List.cons_append,Wv,sbd,Wt,sbd,dF (A4n c hcd),An rfl,A1m]
  by_cases h0:c=48
  ·have h1:=hz h0;rw [e] at h1;rw [h1,h0,Bx (eqT (show (((48:UInt8).toNat:Nat):Int)=48 from rfl))];rfl
  ·rw [An (eqF (fun h=>h0 (A4o c hcd (by omega)))),sbd,V9,sbd,dT hcd,Bx rfl];rw [show (⟨#[48,49,50,51,52,53,54,55,56,57]⟩:ByteArray)=tb R5 from rfl,show tb (c::(r++rest))=tb (c::r++rest) from rfl,Xh (by rw [←e];exact hl) (by rw [←e];exact hF),sbd,A2r (a:=c::r) (by rw [←e];exact hdg) (fun y hy=>(Uz y (hr y hy)).2.1)]
 ·have key:∀a:UInt8,a∉Uq→a.toNat≠48→a∉R5→(a=60∨a=62∨a=33)→tok=[a,61]→(A0k F (tb (tok++rest)) K=K (tb tok)):=by
   intro a h1 h2 h3 h4 e;subst e;unfold A0k;rw [show [a,61]++rest=a::61::rest from rfl,Wv,sbd,Wt,sbd,dF h1,An rfl,A1m,An (eqF (by omega)),sbd,V9,sbd,dF h3,An rfl,
    show (⟨#[60,61]⟩:ByteArray)=tb [60,61] from rfl,show (⟨#[62,61]⟩:ByteArray)=tb [62,61] from rfl,show (⟨#[33,61]⟩:ByteArray)=tb [33,61] from rfl,U6,U6,U6,A61]
   rcases h4 with rfl|rfl|rfl<;>rfl
  rcases h2 with e|e|e
  ·exact key 60 (by decide) (by decide) (by decide) (by simp) e
  ·exact key 62 (by decide) (by decide) (by decide) (by simp) e
  ·exact key 33 (by decide) (by decide) (by decide) (by simp) e
 ·obtain ⟨n1,n2,n3⟩:=A5m c hc;have h48:(c.toNat:Int)≠48:=fun h=>n2 (UInt8.toNat_inj.1 (by show c.toNat=48;omega));have np:∀a:UInt8,(a=60∨a=62∨a=33)→(c::rest).take 2≠[a,61]:=by
   intro a ha h
   cases rest with
   | nil=>simp at h
   | cons y rest =>
    simp at h;rcases hr0 with hf|hr
    ·have hn:=hf.no rfl;rw [h.1] at hn;rcases ha with rfl|rfl|rfl
     ·exact hn.2.2.1 rfl
     ·exact hn.2.2.2.1 rfl
     ·exact hn.2.2.2.2 rfl
    ·exact (Uz y (hr y rfl)).2.2.1 h.2
  rw [show [c]++rest=c::rest from rfl,Wv,sbd,Wt,sbd,dF n1,An rfl,A1m,An (eqF h48),sbd,V9,sbd,dF n3,An rfl,
   show (⟨#[60,61]⟩:ByteArray)=tb [60,61] from rfl,show (⟨#[62,61]⟩:ByteArray)=tb [62,61] from rfl,show (⟨#[33,61]⟩:ByteArray)=tb [33,61] from rfl,U6,U6,U6,dF (np 60 (by simp)),dF (np 62 (by simp)),dF (np 33 (by simp)),sbd,gdT (g:=false==false&&true) rfl,sbd,gdT (g:=(bif false then true else false)==false&&true) rfl,sbd,An rfl,sbd,A4k,sbd,dT hc,Bx rfl,sbd]
  rfl
def Th (p:List UInt8×List UInt8):Prop:=p.1≠[]∨∀y∈p.2.head?,y∈Vf
theorem A3i {S w tok rest prev:List UInt8} {x:Nat} {f:Int} (hS:S.length≤500000) (hx:x≤S.length) (hd:S.drop x=w++(tok++rest)) (hw:White w) (hk:Kd tok) (hr:Fr tok∨∀y∈rest.head?,y∈Vf) (hp:prev=[]∨Fr prev∨Th (w,tok)) {F:Nat} (hF:S.length+100≤F) :
  Ae F ⟨tb S,x,tb prev,f⟩=some ⟨tb S,((x+w.length+tok.length:Nat):Int),tb tok,((x+w.length:Nat):Int)⟩:=by
 have hlen:=Pu hd hx;simp only [List.length_append] at hlen;have hd2:=Ni hd;obtain ⟨c,t,ht⟩:∃c t,tok=c::t:=by
  cases tok with
  | nil=>exact absurd rfl hk.ne
  | cons c t=>exact ⟨c,t,rfl⟩
 have hc35:c∉spcs∧c≠35:=by
  rcases hk with ⟨c',r,e,h,-⟩|⟨v,hv,e⟩|h|⟨c',e,h⟩
  ·rw [ht] at e;rw [(List.cons.inj e).1];exact (by decide:∀y∈Uq,y∉spcs∧y≠35) c' h
  ·obtain ⟨d,r,e2,hd⟩:=Kx hv;rw [ht,e2] at e;rw [(List.cons.inj e).1];exact (by decide:∀y∈R5,y∉spcs∧y≠35) d (Wy hd)
  ·rcases h with e|e|e<;>(rw [ht] at e;rw [(List.cons.inj e).1];decide)
  ·rw [ht] at e;rw [(List.cons.inj e).1];exact (by decide:∀y∈A0v,y∉spcs∧y≠35) c' h
 have hsk:Ex F ⟨tb S,x,tb prev,f⟩=some ⟨tb S,((x+w.length:Nat):Int),tb prev,f⟩ :=
  Xg (by omega) (by omega) (p:=⟨tb S,x,tb prev,f⟩) rfl F x w (tok++rest) hx hd hw (by rw [ht];intro y hy;cases hy;exact hc35) (by omega)
 have hcut:Ei (tb S) ((x+w.length:Nat):Int) (((tb S).size:Nat):Int)=some (tb (tok++rest)):=by rw [Ru (by omega),hd2]
 have hne:sEq (tb (tok++rest)) (⟨#[]⟩:ByteArray)=false:=by
  rw [show (⟨#[]⟩:ByteArray)=tb [] from rfl,Sq,ht];exact dF (by simp)
 have hll:(tok++rest).length≤1000000:=by simp only [List.length_append];omega
 have hlF:(tok++rest).length+1≤F:=by simp only [List.length_append];omega
 unfold Ae;dsimp only
 cases prev with
 | nil =>
  rw [An (by rfl),hsk,sbd];dsimp only;rw [hcut,sbd,An hne];show A0k F (tb (tok++rest)) (Bj ⟨tb S,((x+w.length:Nat):Int),tb [],f⟩)=_;rw [A1u hk hr hll hlF];unfold Bj;dsimp only;rw [E7,ckb (by omega)]
  congr 2
 | cons b q =>
  rw [Bx (by rw [show (⟨#[]⟩:ByteArray)=tb [] from rfl,Sq,dF (by simp)];rfl),Wv,sbd,V9,sbd,hsk,sbd];dsimp only;rw [hcut,sbd,An hne];have fin:A0k F (tb (tok++rest)) (Ai ⟨tb S,((x+w.length:Nat):Int),tb (b::q),f⟩)=some ⟨tb S,((x+w.length+tok.length:Nat):Int),tb tok,((x+w.length:Nat):Int)⟩:=by
   rw [A1u hk hr hll hlF];unfold Ai;dsimp only;rw [E7,ckb (by omega)]
   congr 2
  cases hb:decide (b∈R5)
  ·rw [An rfl];exact fin
  ·rw [Bx rfl]
   by_cases hw0:w=[]
   ·subst hw0;have hcf:c∈Vf:=by
     rcases hp with h|h|h|h
     ·cases h
     ·exact absurd (of_decide_eq_true hb) (h.no rfl).2.1
     ·exact absurd rfl h
     ·exact h c (by rw [ht];rfl)
    rw [Bx (eqT (by simp))];rw [show Ei (tb (tok++rest)) 0 1=some (tb [c]) by rw [ht,List.cons_append,Wv],sbd,A4j,sbd,dF (Uz c hcf).2.2.2,An rfl];rw [←show Ei (tb (tok++rest)) 0 1=some (tb [c]) by rw [ht,List.cons_append,Wv]];exact fin
   ·rw [An (eqF (by have:=List.length_pos_iff.2 hw0;omega))];exact fin
theorem A1z {S w e prev:List UInt8} {x:Nat} {f:Int} (hS:S.length≤500000) (hx:x≤S.length) (hd:S.drop x=w++e) (hw:White w) (he:A2v e) {F:Nat} (hF:S.length+100≤F) :
  Ae F ⟨tb S,x,tb prev,f⟩=some ⟨tb S,(S.length:Int),tb [],(S.length:Int)⟩:=by
 have hlen:=Pu hd hx;simp only [List.length_append] at hlen;have hsk:Ex F ⟨tb S,x,tb prev,f⟩=some ⟨tb S,(S.length:Int),tb prev,f⟩ :=
  A2m (by omega) (by omega) (p:=⟨tb S,x,tb prev,f⟩) rfl F x w e hx hd hw he (by omega)
 have hcut:Ei (tb S) (S.length:Int) (((tb S).size:Nat):Int)=some (tb []):=by rw [Ru (by omega),List.drop_length]
 unfold Ae;dsimp only
 cases prev with
 | nil =>
  rw [An (by rfl),hsk,sbd];dsimp only;rw [hcut,sbd,Bx (by rfl)];unfold Bj;dsimp only;rw [show (((⟨#[]⟩:ByteArray).size:Nat):Int)=0 from rfl,ckb (by omega)];rw [show (S.length:Int)+0=S.length by omega];rfl
 | cons b q =>
  rw [Bx (by rw [show (⟨#[]⟩:ByteArray)=tb [] from rfl,Sq,dF (by simp)];rfl),Wv,sbd,V9,sbd,hsk,sbd];dsimp only;rw [hcut,sbd,Bx (by rfl)];unfold Ai;dsimp only;rw [show (((⟨#[]⟩:ByteArray).size:Nat):Int)=0 from rfl,ckb (by omega)];rw [show (S.length:Int)+0=S.length by omega];rfl
def txt (l:List (List UInt8×List UInt8)):List UInt8:=l.flatMap fun p=>p.1++p.2
def Cn:List UInt8→List (List UInt8×List UInt8)→Prop
 | _,[]=>True
 | prev,p::l=>(prev=[]∨Fr prev∨Th p)∧Cn p.2 l
theorem A2s {tok:List UInt8} (hk:Kd tok) {l:List (List UInt8×List UInt8)} {z:List UInt8} (h:∀p∈l,White p.1∧Kd p.2) (ht:Cn tok l) (hz:∀y∈z.head?,y∈Vf):Fr tok∨∀y∈(txt l++z).head?,y∈Vf:=by
 cases l with
 | nil=>exact .inr hz
 | cons p l =>
  obtain ⟨w,tok'⟩:=p;obtain ⟨h1,h2⟩:=h (w,tok') (by simp);rcases ht.1 with e|e|h3
  ·exact absurd e hk.ne
  ·exact .inl e
  ·refine .inr fun y hy=>?_;rw [txt,List.flatMap_cons] at hy
   cases w with
   | nil =>
    rcases h3 with h3|h3
    ·exact absurd rfl h3
    ·dsimp only at h2 hy h3
     cases tok' with
     | nil=>exact absurd rfl h2.ne
     | cons c t=>exact h3 y hy
   | cons c w=>exact h1.head y hy
theorem A5o {S:List UInt8} (hS:S.length≤500000) {B:Nat} (hB:S.length+100≤B) {w0 e:List UInt8} (hw0:White w0) (he:A2v e) (hz:∀y∈(w0++e).head?,y∈Vf) :
  ∀(l:List (List UInt8×List UInt8)) (x:Nat) (prev:List UInt8) (f:Int),x≤S.length→S.drop x=txt l++(w0++e)→(∀p∈l,White p.1∧Kd p.2)→Cn prev l →
   ∃r',(∀G,B≤G→Ae G ⟨tb S,x,tb prev,f⟩=some r')∧Str B (l.map fun p=>tb p.2) r':=by
 intro l
 induction l with
 | nil =>
  intro x prev f hx hd _ _;refine ⟨⟨tb S,(S.length:Int),tb [],(S.length:Int)⟩,fun G hG=>A1z (w:=w0) hS hx hd hw0 he (by omega),rfl,?_⟩;show (((tb S).size:Nat):Int)≤(S.length:Int);rw [E7];omega
 | cons p l ih =>
  obtain ⟨w,tok⟩:=p;intro x prev f hx hd h1 h2;obtain ⟨k1,k2⟩:=h1 (w,tok) (by simp);dsimp only at k1 k2;have hd':S.drop x=w++(tok++(txt l++(w0++e))):=by rw [hd,txt,List.flatMap_cons];simp [txt]
  have hlen:=Pu hd' hx;simp only [List.length_append] at hlen;have hd2:=Ni hd';have hd3:=Ni hd2;have hr:=A2s k2 (z:=w0++e) (fun p hp=>h1 p (by simp [hp])) h2.2 hz;obtain ⟨r',n1,n2⟩:=ih (x+w.length+tok.length) tok ((x+w.length:Nat):Int) (by omega) hd3 (fun p hp=>h1 p (by simp [hp])) h2.2;have hpos:=List.length_pos_iff.2 k2.ne;refine ⟨⟨tb S,((x+w.length+tok.length:Nat):Int),tb tok,((x+w.length:Nat):Int)⟩,fun G hG=>A3i hS hx hd' k1 k2 hr h2.1 (by omega),rfl,?_,r',n1,n2⟩;show ((x+w.length:Nat):Int)<(((tb S).size:Nat):Int);rw [E7];omega
end Go.Proofs.YtkjnafecmjakcaaGreatDoor
namespace Go.Proofs.YtkjnafecmjakcaaGreatDoor
open Go Go.RowKit Go.Eng
set_option maxRecDepth 10000
set_option linter.unusedVariables false
set_option linter.unusedSimpArgs false
theorem V3 (a b:List (List UInt8×List UInt8)):txt (a++b)=txt a++txt b:=List.flatMap_append
theorem Gm (p:List UInt8×List UInt8) (l:List (List UInt8×List UInt8)):txt (p::l)=p.1++(p.2++txt l):=by rw [txt,List.flatMap_cons,List.append_assoc];rfl
def its:T→List UInt8→List (List UInt8×List UInt8)
 | .leaf op v,w=>[(w,if op=14 then Lib.itoa v else wd op)]
 | .un op r g a,w=>if op=3 then (w,wd 3)::its a [32] else (w,wd op)::([32],Lib.itoa r)::([32],Lib.itoa g)::its a [32]
 | .bin op a b,w=>if op<14 then (w,[40])::(its a []++([32],wd op)::(its b [32]++[([],[41])])) else its a w++([32],wd op)::its b [32]
theorem A3b:∀(t:T) (w:List UInt8),txt (its t w)=w++textT t:=by
 intro t
 induction t with
 | leaf op v=>intro w;simp only [its,textT,Gm];simp [txt]
 | un op r g a ih =>
  intro w;simp only [its,textT]
  split
  ·rw [Gm,ih];simp
  ·rw [Gm,Gm,Gm,ih];simp
 | bin op a b iha ihb =>
  intro w;simp only [its,textT]
  split
  ·rw [Gm,V3,Gm,V3,iha,ihb];simp [txt]
  ·rw [V3,Gm,iha,ihb];simp
theorem A1r:∀(t:T) (w:List UInt8),(its t w).map (fun p=>tb p.2)=P1 t:=by
 intro t
 induction t with
 | leaf op v=>intro w;rfl
 | un op r g a ih =>
  intro w;simp only [its,P1]
  split
  ·rw [List.map_cons,ih]
  ·rw [List.map_cons,List.map_cons,List.map_cons,ih]
 | bin op a b iha ihb =>
  intro w;simp only [its,P1]
  split
  ·rw [List.map_cons,List.map_append,List.map_cons,List.map_append,iha,ihb];rfl
  ·rw [List.map_append,List.map_cons,iha,ihb]
def N3 (c:UInt8):Bool:=c==32||c==40||c==41||c==59||c==58
def Vu (p:List UInt8×List UInt8):Prop:=(p.1=[]∨p.1=[32]∨p.1=[10])∧Kd p.2∧(Fr p.2∨∀c∈p.2,N3 c=false)
theorem Uy {w:List UInt8} (hw:w=[]∨w=[32]∨w=[10]) {op:Int} (h:op∈Xz∨op=4∨op=5):Vu (w,wd op):=by
 have key:∀o∈Xz++[4,5],(∃c∈(wd o).head?,c∈Uq)∧(∀x∈(wd o).tail,x∈Zf)∧∀c∈wd o,N3 c=false:=by decide
 obtain ⟨⟨c,h1,h2⟩,h3,h4⟩:=key op (by rcases h with h|rfl|rfl<;>simp_all)
 refine ⟨hw,.inl ?_,.inr h4⟩;dsimp only
 cases e:wd op with
 | nil=>rw [e] at h1;cases h1
 | cons d r=>rw [e] at h1 h3;cases h1;exact ⟨_,_,rfl,h2,h3⟩
theorem Z0 {w:List UInt8} (hw:w=[]∨w=[32]∨w=[10]) {v:Int} (h:0≤v):Vu (w,Lib.itoa v):=by
 refine ⟨hw,.inr (.inl ⟨v,h,rfl⟩),.inr fun c hc=>?_⟩;obtain ⟨u,rfl⟩:∃u:Nat,v=u:=⟨v.toNat,by omega⟩;have:c∈R5:=Wy (by rw [Lib.itoa_nonneg] at hc;exact Wx u c hc);exact (by decide:∀y∈R5,N3 y=false) c this
theorem A3a {w:List UInt8} (hw:w=[]∨w=[32]∨w=[10]) {op:Int} (h:(8≤op∧op≤13)∨op=26∨op=27):Vu (w,wd op):=by
 have key:op=8∨op=9∨op=10∨op=11∨op=12∨op=13∨op=26∨op=27:=by omega
 have k2:∀o∈([8,9,10,11,12,13,26,27]:List Int),((wd o=[60,61]∨wd o=[62,61]∨wd o=[33,61])∨∃c∈A0v,wd o=[c])∧∀c∈wd o,N3 c=false:=by decide
 obtain ⟨h1,h2⟩:=k2 op (by simp;omega);refine ⟨hw,.inr (.inr (h1.imp id fun ⟨c,e,h⟩=>⟨c,h,e⟩)),.inr h2⟩
theorem Ux {w:List UInt8} (hw:w=[]∨w=[32]∨w=[10]) {c:UInt8} (h:c=40∨c=41∨c=58∨c=59):Vu (w,[c]):=by
 refine ⟨hw,.inr (.inr (.inr ⟨c,rfl,?_⟩)),.inl ?_⟩
 ·rcases h with rfl|rfl|rfl|rfl<;>decide
 ·rcases h with rfl|rfl|rfl|rfl<;>simp [Fr]
theorem A4t:∀(t:T) (k:Bool),okT k t→∀w,(w=[]∨w=[32]∨w=[10])→∀p∈its t w,Vu p:=by
 intro t;have sp:([32]:List UInt8)=[]∨([32]:List UInt8)=[32]∨([32]:List UInt8)=[10]:=by simp
 have em:([]:List UInt8)=[]∨([]:List UInt8)=[32]∨([]:List UInt8)=[10]:=by simp
 induction t with
 | leaf op v =>
  intro k ho w hw p hp;simp only [its,List.mem_singleton] at hp;subst hp
  split
  ·exact Z0 hw (by cases k<;>simp only [okT] at ho<;>omega)
  ·exact Uy hw (.inl (U5 (by cases k<;>simp only [okT] at ho<;>omega)))
 | un op r g a ih =>
  intro k ho w hw p hp;obtain ⟨o1,o2,o3,-⟩:=okU ho;have hop:op=3∨op=6∨op=7∨op=25:=by cases k<;>simp only [okT] at ho<;>omega
  simp only [its] at hp
  split at hp
  ·rcases List.mem_cons.1 hp with rfl|hp
   ·exact Uy hw (.inl (U5 (by omega)))
   ·exact ih true o1 _ sp p hp
  ·simp only [List.mem_cons] at hp;rcases hp with rfl|rfl|rfl|hp
   ·exact Uy hw (.inl (U5 (by omega)))
   ·exact Z0 sp o2
   ·exact Z0 sp o3
   ·exact ih true o1 _ sp p hp
 | bin op a b iha ihb =>
  intro k ho w hw p hp;have hab:(∃q,okT q a)∧∃q,okT q b:=by
   cases k<;>simp only [okT] at ho
   ·exact ⟨⟨_,ho.2.1⟩,⟨_,ho.2.2.1⟩⟩
   ·rcases ho with ho|ho
    ·exact ⟨⟨_,ho.2.1⟩,⟨_,ho.2.2⟩⟩
    ·exact ⟨⟨_,ho.2.2.1⟩,⟨_,ho.2.2.2⟩⟩
  have hop:(op=4∨op=5)∨(8≤op∧op≤13)∨op=26∨op=27:=by cases k<;>simp only [okT] at ho<;>omega
  have hsg:Vu ([32],wd op):=by
   rcases hop with h|h
   ·exact Uy sp (.inr h)
   ·exact A3a sp h
  obtain ⟨⟨q,qa⟩,q',qb⟩:=hab;simp only [its] at hp
  split at hp
  ·simp only [List.mem_cons,List.mem_append,List.not_mem_nil,or_false] at hp;rcases hp with rfl|hp|rfl|hp|rfl
   ·exact Ux hw (by simp)
   ·exact iha q qa _ em p hp
   ·exact hsg
   ·exact ihb q' qb _ sp p hp
   ·exact Ux em (by simp)
  ·simp only [List.mem_cons,List.mem_append] at hp;rcases hp with hp|rfl|hp
   ·exact iha q qa _ hw p hp
   ·exact hsg
   ·exact ihb q' qb _ sp p hp
theorem Zy {x:List UInt8}:Th ([32],x):=.inl (by simp)
theorem A4s:∀(t:T) (w prev:List UInt8) (l:List (List UInt8×List UInt8)),(prev=[]∨Fr prev∨w≠[])→(∀q,Cn q l)→Cn prev (its t w++l):=by
 intro t
 induction t with
 | leaf op v=>intro w prev l h hl;exact ⟨h.imp id (Or.imp id .inl),hl _⟩
 | un op r g a ih =>
  intro w prev l h hl;have h1:prev=[]∨Fr prev∨Th (w,wd op):=h.imp id (Or.imp id .inl);have h2:∀q,Cn q (its a [32]++l):=fun q=>ih [32] q l (.inr (.inr (by simp))) hl;simp only [its]
  split
  ·exact ⟨h.imp id (Or.imp id .inl),h2 _⟩
  ·exact ⟨h1,.inr (.inr Zy),.inr (.inr Zy),h2 _⟩
 | bin op a b iha ihb =>
  intro w prev l h hl;simp only [its]
  split
  ·have h3:∀q,Cn q (([],[41])::l):=fun q=>⟨.inr (.inr (.inr (by decide))),hl _⟩;have h4:∀q,Cn q (its b [32]++(([],[41])::l)):=fun q=>ihb [32] q _ (.inr (.inr (by simp))) h3;have h5:∀q,Cn q (([32],wd op)::(its b [32]++(([],[41])::l))):=fun q=>⟨.inr (.inr Zy),h4 _⟩;have h6:=iha [] [40] _ (.inr (.inl (by simp [Fr]))) h5;have e:(w,[40])::(its a []++([32],wd op)::(its b [32]++[([],[41])]))++l=(w,[40])::(its a []++(([32],wd op)::(its b [32]++(([],[41])::l)))):=by simp
   rw [e];exact ⟨h.imp id (Or.imp id .inl),h6⟩
  ·have h4:∀q,Cn q (its b [32]++l):=fun q=>ihb [32] q _ (.inr (.inr (by simp))) hl;have h5:∀q,Cn q (([32],wd op)::(its b [32]++l)):=fun q=>⟨.inr (.inr Zy),h4 _⟩;rw [List.append_assoc,List.cons_append];exact iha w prev _ h h5
def Ua:List (ByteArray×T)→List UInt8→List (List UInt8×List UInt8)
 | [],_=>[]
 | p::L,w=>(w,p.1.data.toList)::([],[58])::(its p.2 [32]++([],[59])::Ua L [10])
def Fz (L:List (ByteArray×T)):List UInt8:=L.flatMap fun p=>p.1.data.toList++(58::32::(textT p.2++[59,10]))
def Se (L:List (ByteArray×T)):List UInt8:=if L=[] then [] else [10]
theorem A2h:∀(L:List (ByteArray×T)) (w:List UInt8),L≠[]→txt (Ua L w)++[10]=w++Fz L:=by
 intro L
 induction L with
 | nil=>intro w h;exact absurd rfl h
 | cons p L ih =>
  intro w _;rw [Ua,Gm,Gm,V3,Gm,A3b,Fz,List.flatMap_cons]
  by_cases h:L=[]
  ·subst h;simp [Ua,txt]
  ·have:=ih [10] h;simp only [List.append_assoc,List.cons_append,List.nil_append] at this ⊢;rw [this];rfl
theorem Y8 (L:List (ByteArray×T)):txt (Ua L [])++Se L=Fz L:=by
 unfold Se
 split
 ·rename_i h;subst h;rfl
 ·rename_i h;rw [A2h L [] h];rfl
theorem Zx (b:ByteArray):tb b.data.toList=b:=by cases b;simp [tb]
theorem Wj:∀(L:List (ByteArray×T)) (w:List UInt8),(Ua L w).map (fun p=>tb p.2)=Wk L:=by
 intro L
 induction L with
 | nil=>intro w;rfl
 | cons p L ih =>
  intro w;rw [Ua,List.map_cons,List.map_cons,List.map_append,List.map_cons,A1r,ih];dsimp only;rw [Zx];simp [Wk]
theorem A69:∀p∈nms,∀w:List UInt8,(w=[]∨w=[32]∨w=[10])→Vu (w,p.data.toList):=by
 intro p hp w hw;have key:∀p∈nms,(∃c∈p.data.toList.head?,c∈Uq)∧(∀x∈p.data.toList.tail,x∈Zf)∧∀c∈p.data.toList,N3 c=false:=by decide
 obtain ⟨⟨c,h1,h2⟩,h3,h4⟩:=key p hp;refine ⟨hw,.inl ?_,.inr h4⟩;dsimp only
 cases e:p.data.toList with
 | nil=>rw [e] at h1;cases h1
 | cons d r=>rw [e] at h1 h3;cases h1;exact ⟨_,_,rfl,h2,h3⟩
theorem Zw:∀(L:List (ByteArray×T)),(∀p∈L,p.1∈nms∧okT true p.2)→∀(w:List UInt8),(w=[]∨w=[32]∨w=[10])→∀p∈Ua L w,Vu p:=by
 intro L
 induction L with
 | nil=>intro _ w _ p hp;cases hp
 | cons q L ih =>
  intro hL w hw p hp;simp only [Ua,List.mem_cons,List.mem_append] at hp;rcases hp with rfl|rfl|hp|rfl|hp
  ·exact A69 _ (hL q (by simp)).1 w hw
  ·exact Ux (by simp) (by simp)
  ·exact A4t q.2 true (hL q (by simp)).2 _ (by simp) p hp
  ·exact Ux (by simp) (by simp)
  ·exact ih (fun p hp=>hL p (by simp [hp])) _ (by simp) p hp
theorem Zv:∀(L:List (ByteArray×T)) (w prev:List UInt8),(prev=[]∨w≠[])→Cn prev (Ua L w):=by
 intro L
 induction L with
 | nil=>intro w prev _;trivial
 | cons q L ih =>
  intro w prev h;have h1:∀x,Cn x (([],[59])::Ua L [10]):=fun x=>⟨.inr (.inr (.inr (by decide))),ih [10] _ (.inr (by simp))⟩;exact ⟨h.imp id fun h=>.inr (.inl h),.inr (.inr (.inr (by decide))),A4s q.2 [32] [58] _ (.inr (.inr (by simp))) h1⟩
def lo (f:Nat→List UInt8):Nat→List UInt8→List UInt8
 | _,[]=>[]
 | i,c::s=>(if N3 c=true then f i else [])++c::lo f (i+1) s
theorem Z2 {f:Nat→List UInt8}:∀(a:List UInt8) (i:Nat) (b:List UInt8),lo f i (a++b)=lo f i a++lo f (i+a.length) b:=by
 intro a
 induction a with
 | nil=>intro i b;rfl
 | cons c a ih =>
  intro i b;show (if N3 c=true then f i else [])++c::lo f (i+1) (a++b)=((if N3 c=true then f i else [])++c::lo f (i+1) a)++_;rw [ih,List.length_cons,show i+(a.length+1)=i+1+a.length by omega];simp
theorem A1x {f:Nat→List UInt8}:∀(a:List UInt8) (i:Nat),(∀c∈a,N3 c=false)→lo f i a=a:=by
 intro a
 induction a with
 | nil=>intro i _;rfl
 | cons c a ih =>
  intro i h;show (if N3 c=true then f i else [])++c::lo f (i+1) a=_;rw [h c (by simp),if_neg (by simp),ih _ fun d hd=>h d (by simp [hd])];rfl
theorem A65 {f:Nat→List UInt8} {a:List UInt8} {i:Nat} (h:a≠[]):lo f i a≠[]:=by
 cases a with
 | nil=>exact absurd rfl h
 | cons c a=>simp [lo]
theorem A1w {f:Nat→List UInt8} (hf:∀i,(f i).length≤6):∀(a:List UInt8) (i:Nat),(lo f i a).length≤7*a.length:=by
 intro a
 induction a with
 | nil=>intro i;simp [lo]
 | cons c a ih =>
  intro i;show ((if N3 c=true then f i else [])++c::lo f (i+1) a).length≤_;have:=ih (i+1);have:=hf i;rw [List.length_append,List.length_cons,List.length_cons]
  split
  ·omega
  ·simp only [List.length_nil];omega
def frB (t:List UInt8):Bool:=t==[40]||t==[41]||t==[58]||t==[59]
theorem Zo {t:List UInt8}:frB t=true↔Fr t:=by unfold frB Fr;simp [or_assoc]
def lz (f:Nat→List UInt8):Nat→List (List UInt8×List UInt8)→List (List UInt8×List UInt8)
 | _,[]=>[]
 | i,p::l=>(lo f i p.1++(if frB p.2=true then f (i+p.1.length) else []),p.2)::lz f (i+p.1.length+p.2.length) l
theorem A4y {f:Nat→List UInt8}:∀(l:List (List UInt8×List UInt8)) (i:Nat),(∀p∈l,Vu p)→txt (lz f i l)=lo f i (txt l):=by
 intro l
 induction l with
 | nil=>intro i _;rfl
 | cons p l ih =>
  intro i h;have hp:=(h p (by simp)).2.2;rw [lz,Gm,Gm,Z2,Z2,ih _ fun q hq=>h q (by simp [hq])];dsimp only;have e:(if frB p.2=true then f (i+p.1.length) else [])++p.2=lo f (i+p.1.length) p.2:=by
   rcases hp with h1|h1
   ·rw [if_pos (Zo.2 h1)];rcases h1 with e|e|e|e<;>(rw [e];simp [lo,N3])
   ·have h2:¬frB p.2=true:=fun h2=>by
     rcases Zo.1 h2 with e|e|e|e<;>(rw [e] at h1;exact absurd (h1 _ (List.mem_singleton.2 rfl)) (by decide))
    rw [if_neg h2,A1x _ _ h1];rfl
  rw [List.append_assoc,←List.append_assoc _ p.2,e]
theorem A4x {f:Nat→List UInt8}:∀(l:List (List UInt8×List UInt8)) (i:Nat),(lz f i l).map (fun p=>tb p.2)=l.map fun p=>tb p.2:=by
 intro l
 induction l with
 | nil=>intro i;rfl
 | cons p l ih=>intro i;rw [lz,List.map_cons,List.map_cons,ih]
theorem A67 {f:Nat→List UInt8} (hf:∀i,White (f i)):∀(l:List (List UInt8×List UInt8)) (i:Nat),(∀p∈l,Vu p)→∀p∈lz f i l,White p.1∧Kd p.2:=by
 intro l
 induction l with
 | nil=>intro i _ p hp;cases hp
 | cons q l ih =>
  intro i h p hp;rcases List.mem_cons.1 hp with rfl|hp
  ·obtain ⟨h1,h2,-⟩:=h q (by simp);refine ⟨?_,h2⟩;have wf:White (if frB q.2=true then f (i+q.1.length) else []):=by
    split
    ·exact hf _
    ·exact .nil
   refine White.app ?_ wf;rcases h1 with e|e|e
   ·rw [e];exact .nil
   ·rw [e];exact White.app (by split<;>first|exact hf _|exact .nil) (.sp (by decide) .nil)
   ·rw [e];exact White.app (by split<;>first|exact hf _|exact .nil) (.sp (by decide) .nil)
  ·exact ih _ (fun p hp=>h p (by simp [hp])) p hp
theorem A66 {f:Nat→List UInt8}:∀(l:List (List UInt8×List UInt8)) (i:Nat) (prev:List UInt8),Cn prev l→Cn prev (lz f i l):=by
 intro l
 induction l with
 | nil=>intro i prev _;trivial
 | cons p l ih =>
  intro i prev h;refine ⟨h.1.imp id (Or.imp id fun h=>?_),ih _ _ h.2⟩;rcases h with h|h
  ·exact .inl (by simp [A65 h])
  ·exact .inr h
end Go.Proofs.YtkjnafecmjakcaaGreatDoor
namespace Go.Proofs.YtkjnafecmjakcaaGreatDoor
open Go Go.RowKit Go.Eng
set_option maxRecDepth 10000
set_option linter.unusedVariables false
set_option linter.unusedSimpArgs false
theorem A17 (l:List UInt8):bst (l.map fun c=>(c.toNat:Int))=tb l:=by
 unfold bst tb
 congr 2
 rw [List.map_map];have:((fun x:Int=>UInt8.ofNat x.toNat)∘fun c:UInt8=>(c.toNat:Int))=id:=by
  funext c
  show UInt8.ofNat ((c.toNat:Int)).toNat=c;rw [Int.toNat_natCast];exact UInt8.ofNat_toNat
 rw [this,List.map_id]
theorem Q3:∀(L:List (ByteArray×T)),(∀p∈L,p.1∈nms∧okT true p.2∧p.2.size≤31)→(Fz L).length≤1300*L.length:=by
 intro L
 induction L with
 | nil=>intro _;simp [Fz]
 | cons p L ih =>
  intro h;obtain ⟨h1,h2,h3⟩:=h p (by simp);have:=ih fun q hq=>h q (by simp [hq]);have t:=Rq p.2 true h2;have n:p.1.data.toList.length≤12:=(by decide:∀q∈nms,q.data.toList.length≤12) _ h1;rw [show Fz (p::L)=p.1.data.toList++(58::32::(textT p.2++[59,10]))++Fz L by simp [Fz]];simp only [List.length_append,List.length_cons,List.length_nil];omega
theorem MeanR.texts {ray:Bool} {L:List (ByteArray×T)} (h:MeanR ray L):∀p∈L,p.1∈nms∧okT true p.2∧p.2.size≤31:=by
 intro p hp;obtain ⟨i,hi,e⟩:=List.mem_iff_getElem.1 hp;have hm:=h.trees p hp;exact ⟨List.mem_of_getElem? (h.names i p (by rw [←e];exact List.getElem?_eq_getElem hi)),hm.ok,by have:=hm.size;omega⟩
theorem Vm {ray:Bool} {L:List (ByteArray×T)} (h:MeanR ray L) {F:Nat} (hF:2000≤F):Gy F (rl L)=some (tb (Fz L),0):=by
 have hll:=h.len;have hlen:=Q3 L h.texts;have go:∀(n j:Nat) (c:Bool),L.length+1≤n+j→j≤L.length→Ka F (rl L) n c ((Fz (L.take j)).map fun c=>(c.toNat:Int)) j=some (tb (Fz L),0):=by
  intro n
  induction n with
  | zero=>intro j c h1 h2;omega
  | succ n ih =>
   intro j c h1 h2;show K9 F (rl L) _ c _ j=_;unfold K9;rw [Kt]
   by_cases hj:j<L.length
   ·have hx:=List.getElem?_eq_getElem hj;have hmem:=List.getElem_mem hj;have htk:L.take (j+1)=L.take j++[L[j]]:=by rw [List.take_add_one,hx];rfl
    generalize L[j]=p at hx hmem htk;obtain ⟨n1,n2,n3⟩:=h.texts p hmem;have t:=Rq p.2 true n2;have nl:p.1.data.toList.length≤12:=(by decide:∀q∈nms,q.data.toList.length≤12) _ n1;have e1:(rlN p).Name=tb p.1.data.toList:=(Zx p.1).symm;have htl:=Q3 (L.take j) fun q hq=>h.texts q (List.mem_of_mem_take hq);rw [List.length_take,Nat.min_eq_left h2] at htl;rw [Bx (dT (by omega)),Hs j _ rfl (Mw hx),e1,show (⟨#[58,32]⟩:ByteArray)=tb [58,32] from rfl,Pb (by simp only [List.length_cons,List.length_nil];omega),show Gk F (rlN p).When=some (tb (textT p.2)) from A3x p.2 true F n2 (by omega) (by omega),sbd,Pb (by simp only [List.length_append,List.length_cons,List.length_nil];omega),show (⟨#[59,10]⟩:ByteArray)=tb [59,10] from rfl,Pb (by simp only [List.length_append,List.length_cons,List.length_nil];omega)];have e2:(Fz (L.take j)).map (fun c=>(c.toNat:Int))++sby (tb (p.1.data.toList++[58,32]++textT p.2++[59,10]))=(Fz (L.take (j+1))).map fun c=>(c.toNat:Int):=by
     rw [htk];simp [sby,tb,Fz,List.flatMap_append]
    have hw:Cq F (c,(Fz (L.take j)).map fun c=>(c.toNat:Int)) (tb (p.1.data.toList++[58,32]++textT p.2++[59,10]))=some (((((tb (p.1.data.toList++[58,32]++textT p.2++[59,10])).size:Nat):Int)),(),(true,(Fz (L.take (j+1))).map fun c=>(c.toNat:Int))):=by
     unfold Cq Tx;rw [sbd];dsimp only;rw [show apd 1 ((Fz (L.take j)).map fun c=>(c.toNat:Int)) (sby (tb (p.1.data.toList++[58,32]++textT p.2++[59,10])))=some ((Fz (L.take (j+1))).map fun c=>(c.toNat:Int)) by
      unfold apd;rw [if_pos,e2];simp only [sby,tb,List.length_map,List.length_append,List.length_cons,List.length_nil];omega]
     rfl
    rw [hw,sbd,ckb (by omega)];exact ih (j+1) true (by omega) (by omega)
   ·rw [An (dF (by omega)),List.take_of_length_le (by omega)];unfold Mf G5;rw [sbd];dsimp only;rw [List.length_map,An (dF (by omega))];unfold Pa;rw [sbd,A17]
 unfold Gy;rw [Xm h.good (by omega),sbd,An (neF rfl)];exact go F 0 false (by omega) (by omega)
theorem Zg {ray:Bool} {L:List (ByteArray×T)} (h:MeanR ray L) {S:List UInt8} (hS:S.length≤60000) {F:Nat} (hF:70000≤F) {l:List (List UInt8×List UInt8)} {w0 e:List UInt8} (hw0:White w0) (he:A2v e) (hz:∀y∈(w0++e).head?,y∈Vf)
  (hT:S=txt l++(w0++e)) (h1:∀p∈l,White p.1∧Kd p.2) (h2:Cn [] l) (h3:(l.map fun p=>tb p.2)=Wk L):Ef F (tb S)=some (rl L,0,0):=by
 obtain ⟨r',n1,n2⟩:=A5o (S:=S) (B:=60100) (by omega) (by omega) hw0 he hz l 0 [] 0 (by omega) (by rw [List.drop_zero];exact hT) h1 h2;rw [h3] at n2;obtain ⟨r2,q⟩:=Z9 h (B:=60100) (F:=F) (by omega) (n1 F (by omega)) n2;unfold Ef;rw [E7,An (dF (by omega)),show Ed F ⟨tb S,0,ByteArray.empty,0⟩=_ from q,sbd,exk];dsimp only;rw [Xm h.good (by omega),sbd,An (neF rfl)]
theorem A21:∀(t u:T),t.node=u.node→t=u:=by
 intro t
 induction t with
 | leaf op v=>intro u h;cases u<;>simp_all [T.node]
 | un op r g a ih =>
  intro u h
  cases u with
  | leaf _ _=>simp [T.node] at h
  | un op' r' g' a' =>
   simp only [T.node,sift_Node.mk.injEq,List.cons.injEq,and_true] at h;obtain ⟨rfl,-,rfl,rfl,h⟩:=h;rw [ih _ h]
  | bin _ _ _=>simp [T.node] at h
 | bin op a b iha ihb =>
  intro u h
  cases u with
  | leaf _ _=>simp [T.node] at h
  | un _ _ _ _=>simp [T.node] at h
  | bin op' a' b' =>
   simp only [T.node,sift_Node.mk.injEq,List.cons.injEq,and_true] at h;obtain ⟨rfl,-,-,-,h1,h2⟩:=h;rw [iha _ h1,ihb _ h2]
theorem A5h {L M:List (ByteArray×T)} (h:rl L=rl M):L=M:=by
 induction L generalizing M with
 | nil=>cases M with
  | nil=>rfl
  | cons q M=>cases h
 | cons p L ih =>
  cases M with
  | nil=>cases h
  | cons q M =>
   have h1:rlN p=rlN q:=(List.cons.inj h).1;have h2:rl L=rl M:=(List.cons.inj h).2;have e1:p.1=q.1:=congrArg sift_Rule.Name h1;have e2:p.2.node=q.2.node:=congrArg sift_Rule.When h1;rw [ih h2,Prod.ext e1 (A21 _ _ e2)]
section
variable {self_:sift_Node→sift_Node→Option Bool} {p q u v:sift_Node} {F i:Nat} {b:Bool}
theorem A11 (hu:p.Args[i]? = some u) (hv:q.Args[i]? = some v) (hl:p.Args.length≤2) (hs:self_ u v=some b):By self_ p q (F+1) (i:Int)=bif b then By self_ p q F ((i:Int)+1) else some false:=by
 have hlt:=(List.getElem?_eq_some_iff.1 hu).1;show Bi self_ p q _ _=_;rw [Bi,Bx (dT (by omega)),Hs i u rfl hu,Hs i v rfl hv,hs,sbd]
 cases b
 ·rw [Bx (c:=!false) rfl,An (c:=false) rfl]
 ·rw [An (c:=!true) rfl,ckb (by omega),Bx (c:=true) rfl]
theorem Yo {x:Int} (hx:(p.Args.length:Int)≤x):By self_ p q (F+1) x=some true:=by
 show Bi self_ p q _ _=_;rw [Bi,An (dF (by omega))];rfl
end
theorem A02:∀(t u:T) (F:Nat),t.size+4≤F→Ck F t.node u.node=some (decide (t=u)):=by
 intro t;have ne:∀(t u:T) (F:Nat),(t.node.Op≠u.node.Op∨t.node.Value_≠u.node.Value_∨t.node.Rays≠u.node.Rays∨t.node.Gates≠u.node.Gates∨t.node.Args.length≠u.node.Args.length)→Ck (F+1) t.node u.node=some (decide (t=u)):=by
  intro t u F h;have hne:t≠u:=by
   rintro rfl;simp at h
  rw [dF hne];show Ej F (Ck F) t.node u.node=_;unfold Ej;refine Bx ?_;rcases h with h|h|h|h|h
  ·rw [neT h];rfl
  ·rw [neT h];cases (t.node.Op != u.node.Op)<;>rfl
  ·rw [neT h];cases (t.node.Op != u.node.Op)<;>cases (t.node.Value_ != u.node.Value_)<;>rfl
  ·rw [neT h];cases (t.node.Op != u.node.Op)<;>cases (t.node.Value_ != u.node.Value_)<;>cases (t.node.Rays != u.node.Rays)<;>rfl
  ·rw [neT (a:=((t.node.Args.length:Nat):Int)) (by omega)];cases (t.node.Op != u.node.Op)<;>cases (t.node.Value_ != u.node.Value_)<;>cases (t.node.Rays != u.node.Rays)<;>cases (t.node.Gates != u.node.Gates)<;>rfl
 have eq:∀(t u:T) (F:Nat),t.node.Op=u.node.Op→t.node.Value_=u.node.Value_→t.node.Rays=u.node.Rays→t.node.Gates=u.node.Gates→t.node.Args.length=u.node.Args.length→Ck (F+1) t.node u.node=By (Ck F) t.node u.node F 0:=by
  intro t u F h1 h2 h3 h4 h5;show Ej F (Ck F) t.node u.node=_;unfold Ej;rw [An (Y4 (Y4 (Y4 (Y4 (neF h1) (neF h2)) (neF h3)) (neF h4)) (neF (by rw [h5])))]
 induction t with
 | leaf op v =>
  intro u F hF;obtain ⟨F,rfl⟩:∃G,F=G+1+1:=⟨F-2,by omega⟩
  cases u with
  | leaf op' v' =>
   by_cases h:op=op'∧v=v'
   ·obtain ⟨rfl,rfl⟩:=h;rw [eq _ _ _ rfl rfl rfl rfl rfl,Yo (by simp [T.node]),dT rfl]
   ·exact ne _ _ _ (by simp only [T.node];omega)
  | un _ _ _ _=>exact ne _ _ _ (by simp [T.node])
  | bin _ _ _=>exact ne _ _ _ (by simp [T.node])
 | un op r g a ih =>
  intro u F hF;simp only [T.size] at hF;obtain ⟨F,rfl⟩:∃G,F=G+1+1+1:=⟨F-3,by omega⟩
  cases u with
  | leaf _ _=>exact ne _ _ _ (by simp [T.node])
  | un op' r' g' a' =>
   by_cases h:op=op'∧r=r'∧g=g'
   ·obtain ⟨rfl,rfl,rfl⟩:=h;rw [eq (T.un op r g a) (T.un op r g a') (F+1+1) rfl rfl rfl rfl rfl,show By (Ck (F+1+1)) (T.un op r g a).node (T.un op r g a').node (F+1+1) 0=_ from A11 (i:=0) (u:=a.node) (v:=a'.node) (by simp [T.node]) (by simp [T.node]) (by simp [T.node]) (ih a' (F+1+1) (by omega))]
    by_cases e:a=a'
    ·rw [dT e,dT (by rw [e]),Bx rfl];exact Yo (by simp [T.node])
    ·rw [dF e,dF (by simp [e]),An rfl]
   ·exact ne _ _ _ (by simp only [T.node];omega)
  | bin _ _ _=>exact ne _ _ _ (by simp [T.node])
 | bin op a b iha ihb =>
  intro u F hF;simp only [T.size] at hF;obtain ⟨F,rfl⟩:∃G,F=G+1+1+1+1:=⟨F-4,by omega⟩
  cases u with
  | leaf _ _=>exact ne _ _ _ (by simp [T.node])
  | un _ _ _ _=>exact ne _ _ _ (by simp [T.node])
  | bin op' a' b' =>
   by_cases h:op=op'
   ·subst h;rw [eq (T.bin op a b) (T.bin op a' b') (F+1+1+1) rfl rfl rfl rfl rfl,show By (Ck (F+1+1+1)) (T.bin op a b).node (T.bin op a' b').node (F+1+1+1) 0=_ from A11 (i:=0) (u:=a.node) (v:=a'.node) (by simp [T.node]) (by simp [T.node]) (by simp [T.node]) (iha a' (F+1+1+1) (by omega))]
    by_cases e:a=a'
    ·rw [dT e,Bx rfl,show By (Ck (F+1+1+1)) (T.bin op a b).node (T.bin op a' b').node (F+1+1) (((0:Nat):Int)+1)=_ from A11 (i:=1) (u:=b.node) (v:=b'.node) (by simp [T.node]) (by simp [T.node]) (by simp [T.node]) (ihb b' (F+1+1+1) (by omega))]
     by_cases e2:b=b'
     ·rw [dT e2,dT (by rw [e,e2]),Bx rfl];exact Yo (by simp [T.node])
     ·rw [dF e2,dF (by simp [e2]),An rfl]
    ·rw [dF e,dF (by simp [e]),An rfl]
   ·exact ne _ _ _ (by simp only [T.node];omega)
theorem A08 {L M:List (ByteArray×T)} (hL:GoodR L) {F:Nat} (hF:2000≤F):Fl F (rl L) (rl M)=some (decide (L=M)):=by
 have hlen:=hL.len
 by_cases hlm:L.length=M.length
 ·have go:∀(n j:Nat),L.length+1≤n+j→j≤L.length→L.take j=M.take j→Gj F (rl L) (rl M) n j=some (decide (L=M)):=by
   intro n
   induction n with
   | zero=>intro j h1 h2;omega
   | succ n ih =>
    intro j h1 h2 h3;show Fu F (rl L) (rl M) _ j=_;unfold Fu;rw [Kt]
    by_cases hj:j<L.length
    ·have hp:=List.getElem?_eq_getElem hj;have hq:=List.getElem?_eq_getElem (l:=M) (i:=j) (by omega);have hm:=List.getElem_mem hj;have t1:L.take (j+1)=L.take j++[L[j]]:=by rw [List.take_add_one,hp];rfl
     have t2:M.take (j+1)=M.take j++[M[j]]:=by rw [List.take_add_one,hq];rfl
     have hne:L[j]≠M[j]→L≠M:=by
      intro h e;apply h;have:L[j]? = M[j]?:=by rw [e]
      rw [hp,hq] at this;exact Option.some.inj this
     generalize L[j]=p at *;generalize M[j]=q at *;have hsz:=Nat.le_trans (V2 hm) hL.size;rw [Bx (dT (by omega)),Hs j _ rfl (Mw hp),Hs j _ rfl (Mw hq)]
     by_cases e1:p.1=q.1
     ·have es:sEq (rlN p).Name (rlN q).Name=true:=V1.2 e1;rw [es,An (c:=!true) rfl,Hs j _ rfl (Mw hp),Hs j _ rfl (Mw hq),show Ck F (rlN p).When (rlN q).When=_ from A02 p.2 q.2 F (by omega),sbd]
      by_cases e2:p.2=q.2
      ·rw [dT e2,An (c:=bif !true then true else !true) rfl,ckb (by omega)];exact ih (j+1) (by omega) (by omega) (by rw [t1,t2,h3,Prod.ext e1 e2])
      ·rw [dF e2,Bx (c:=bif !true then true else !false) rfl,dF (hne fun e=>e2 (by rw [e]))]
     ·have es:sEq (rlN p).Name (rlN q).Name=false:=by
       cases h:sEq (rlN p).Name (rlN q).Name
       ·rfl
       ·exact absurd (V1.1 h) e1
      rw [es,dF (hne fun e=>e1 (by rw [e])),Bx (c:=!false) rfl];rfl
    ·rw [An (dF (by omega))];rw [List.take_of_length_le (by omega),List.take_of_length_le (by omega)] at h3;rw [dT h3];rfl
  unfold Fl;rw [An (neF (by rw [Kt,Kt,hlm]))];exact go F 0 (by omega) (by omega) (by simp)
 ·unfold Fl;rw [Bx (neT (by rw [Kt,Kt];omega)),dF (fun e=>hlm (by rw [e]))]
end Go.Proofs.YtkjnafecmjakcaaGreatDoor
namespace Go.Proofs.YtkjnafecmjakcaaGreatDoor
open Go Go.RowKit Go.Eng
set_option maxRecDepth 10000
set_option linter.unusedVariables false
set_option linter.unusedSimpArgs false
def fls:List (List UInt8):=[[],[32],[9,13],[35,32,40,32,59,10],[10,10,32,32]]
theorem A0b:∀x∈fls,White x∧x.length≤6:=by
 have h10:White [10]:=.sp (by decide) .nil;intro x hx;simp only [fls,List.mem_cons,List.not_mem_nil,or_false] at hx;rcases hx with rfl|rfl|rfl|rfl|rfl
 ·exact ⟨.nil,by decide⟩
 ·exact ⟨.sp (by decide) .nil,by decide⟩
 ·exact ⟨.sp (by decide) (.sp (by decide) .nil),by decide⟩
 ·exact ⟨White.cm (a:=[32,40,32,59]) (w:=[]) (by decide) h10,by decide⟩
 ·exact ⟨.sp (by decide) (.sp (by decide) (.sp (by decide) (.sp (by decide) .nil))),by decide⟩
def fl (p:List Int) (F i:Nat):List UInt8:=(fls[((Gr F p (i:Int) 5).getD 0).toNat]?).getD []
theorem T9 (p:List Int) (F i:Nat):White (fl p F i)∧(fl p F i).length≤6:=by
 unfold fl
 cases h:fls[((Gr F p (i:Int) 5).getD 0).toNat]? with
 | none=>exact ⟨.nil,by simp⟩
 | some x=>exact A0b x (List.mem_of_getElem? h)
theorem A5k (c:UInt8):(bif (bif (bif (bif ((c.toNat:Int)==32) then true else ((c.toNat:Int)==40)) then true else ((c.toNat:Int)==41)) then true else ((c.toNat:Int)==59)) then true else ((c.toNat:Int)==58))=N3 c:=by
 have key:∀k:UInt8,((c.toNat:Int)==(k.toNat:Int))=(c==k):=by
  intro k
  by_cases h:c=k
  ·subst h;simp
  ·rw [eqF (fun e=>h (UInt8.toNat_inj.1 (by omega)))];exact (beq_eq_false_iff_ne.2 h).symm
 unfold N3;rw [show ((c.toNat:Int)==32)=_ from key 32,show ((c.toNat:Int)==40)=_ from key 40,show ((c.toNat:Int)==41)=_ from key 41,show ((c.toNat:Int)==59)=_ from key 59,show ((c.toNat:Int)==58)=_ from key 58]
 cases (c==32)<;>cases (c==40)<;>cases (c==41)<;>cases (c==59)<;>cases (c==58)<;>rfl
theorem A1y {p:List Int} (hp:Q6 p) {F:Nat} (y:List sift_Rule×List Int) {S:List UInt8} (hS:S.length≤10000):∀(n j:Nat) (acc:List UInt8),S.length+1≤n+j→j≤S.length→acc.length≤7*j →
  Ft F p y (S.map fun c=>(c.toNat:Int)) n (tb acc) j=Cz F y (tb (acc++lo (fl p F) j (S.drop j))):=by
 intro n
 induction n with
 | zero=>intro j acc h1 h2;omega
 | succ n ih =>
  intro j acc h1 h2 h3;show Fq F p y _ _ (tb acc) j=_;unfold Fq Fs;rw [List.length_map]
  by_cases hj:j<S.length
  ·have hg:(S.map fun c=>(c.toNat:Int))[j]? = some ((S[j]).toNat:Int):=by rw [List.getElem?_map,List.getElem?_eq_getElem hj];rfl
   rw [List.drop_eq_getElem_cons hj];generalize S[j]=c at hg;have hb:bst [((c.toNat:Nat):Int)]=tb [c]:=A17 [c];rw [Bx (dT (by omega)),Hs j _ rfl hg,A5k c,hb];show _=Cz F y (tb (acc++((if N3 c=true then fl p F j else [])++c::lo (fl p F) (j+1) (S.drop (j+1)))))
   cases hs:N3 c
   ·rw [An rfl,if_neg (by simp),Pb (by simp only [List.length_cons,List.length_nil];omega),ckb (by omega)];have:=ih (j+1) (acc++[c]) (by omega) (by omega) (by simp;omega);rw [show acc++([]++c::lo (fl p F) (j+1) (S.drop (j+1)))=acc++[c]++lo (fl p F) (j+1) (S.drop (j+1)) by simp];exact this
   ·obtain ⟨x,x1,x2,x3⟩:=A0r hp F (i:=(j:Int)) (n:=5) (by omega) (by omega);have hf:fls[x.toNat]? = some (fl p F j):=by
     have hlt:x.toNat<fls.length:=by show x.toNat<5;omega
     unfold fl;rw [x1,Option.getD_some,List.getElem?_eq_getElem hlt];rfl
    have hf2:([(⟨#[]⟩:ByteArray),(⟨#[32]⟩:ByteArray),(⟨#[9,13]⟩:ByteArray),(⟨#[35,32,40,32,59,10]⟩:ByteArray),(⟨#[10,10,32,32]⟩:ByteArray)])[x.toNat]? = some (tb (fl p F j)):=by
     show (fls.map tb)[x.toNat]? = _;rw [List.getElem?_map,hf];rfl
    have hfl:=(T9 p F j).2;rw [Bx rfl,if_pos rfl,x1,sbd,Hs x.toNat _ (by omega) hf2,Pb (by omega),Pb (by simp only [List.length_append,List.length_cons,List.length_nil];omega),ckb (by omega)];have:=ih (j+1) (acc++fl p F j++[c]) (by omega) (by omega) (by simp;omega);rw [show acc++(fl p F j++c::lo (fl p F) (j+1) (S.drop (j+1)))=acc++fl p F j++[c]++lo (fl p F) (j+1) (S.drop (j+1)) by simp];exact this
  ·rw [An (dF (by omega)),List.drop_eq_nil_of_le (by omega)];show _=Cz F y (tb (acc++[]));rw [List.append_nil]
theorem T0 (L:List (ByteArray×T)):White (Se L):=by
 unfold Se;split
 ·exact .nil
 ·exact .sp (by decide) .nil
theorem A0z:Mi 100000=some true:=by kernel_rfl
theorem Wo {p q w:List Int} {n m:Int} (hp:Q6 p) (hq:Q6 q) (hn:0≤n∧n<256) (hm:0≤m∧m<256) (hw:Q6 w):He 100000 p q n m w=some true:=by
 generalize hF:100000=F;have hF2:100000≤F:=by omega
 have hwk:Mi F=some true:=by rw [←hF];exact A0z
 obtain ⟨L,p',q1,q2,-⟩:=Y9 hp hn true (F:=F) (by omega);obtain ⟨M,m',r1,r2,-⟩:=Y9 hq hm true (F:=F) (by omega);have hLl:=q2.len;have hMl:=r2.len;have lenL:=Q3 L q2.texts;have lenM:=Q3 M r2.texts;have rdS:∀{L:List (ByteArray×T)},MeanR true L→Ef F (tb (Fz L))=some (rl L,0,0):=by
  intro L h;have hl:=Q3 L h.texts;have h4:=h.len;have hh:∀p∈L,p.1∈nms∧okT true p.2:=fun p hp=>⟨(h.texts p hp).1,(h.texts p hp).2.1⟩;refine Zg h (by omega) (by omega) (l:=Ua L []) (w0:=Se L) (e:=[]) (T0 L) (.inl rfl) ?_ (by rw [List.append_nil];exact (Y8 L).symm) (fun p hp=>?_) (Zv L [] [] (.inl rfl)) (Wj L [])
  ·rw [List.append_nil];exact (T0 L).head
  ·obtain ⟨h1,h2,-⟩:=Zw L hh [] (.inl rfl) p hp;refine ⟨?_,h2⟩;rcases h1 with e|e|e<;>rw [e]
   ·exact .nil
   ·exact .sp (by decide) .nil
   ·exact .sp (by decide) .nil
 have hiff:decide (Fz L=Fz M)=decide (L=M):=by
  by_cases h:L=M
  ·rw [dT h,dT (by rw [h])]
  ·rw [dF h];refine dF fun e=>h ?_;have a:=rdS q2;have b:=rdS r2;rw [e] at a;rw [a] at b;exact A5h (congrArg Prod.fst (Option.some.inj b))
 have hself:sEq (tb (Fz L)) (tb (Fz L))=true:=V1.2 rfl;have hlm:sEq (tb (Fz L)) (tb (Fz M))=decide (L=M):=by rw [Sq,hiff]
 have rdL:Ef F (tb (lo (fl w F) 0 (Fz L)++[32,35,32,101,110,100]))=some (rl L,0,0):=by
  have hf:∀i,White (fl w F i):=fun i=>(T9 w F i).1;have hlen:=A1w (f:=fl w F) (fun i=>(T9 w F i).2) (Fz L) 0;have hh:∀p∈L,p.1∈nms∧okT true p.2:=fun p hp=>⟨(q2.texts p hp).1,(q2.texts p hp).2.1⟩;have hit:=Zw L hh [] (.inl rfl);refine Zg q2 (by simp only [List.length_append,List.length_cons,List.length_nil];omega) (by omega) (l:=lz (fl w F) 0 (Ua L [])) (w0:=Se L++[32]) (e:=[35,32,101,110,100]) ((T0 L).app (.sp (by decide) .nil)) (.inr ⟨[32,101,110,100],rfl,by decide⟩) ?_ ?_ (A67 hf _ _ hit) (A66 _ _ _ (Zv L [] [] (.inl rfl))) (by rw [A4x];exact Wj L [])
  ·unfold Se
   split
   ·intro y hy;cases hy;decide
   ·intro y hy;cases hy;decide
  ·rw [A4y _ _ hit]
   conv=>lhs;rw [←Y8 L]
   rw [Z2];have:∀i,lo (fl w F) i (Se L)=Se L:=fun i=>A1x _ _ (by unfold Se;split<;>decide);rw [this];simp
 have hK:Cz F (rl L,p') (tb (lo (fl w F) 0 (Fz L)))=some true:=by
  have hlen:=A1w (f:=fl w F) (fun i=>(T9 w F i).2) (Fz L) 0;unfold Cz;rw [show (⟨#[32,35,32,101,110,100]⟩:ByteArray)=tb [32,35,32,101,110,100] from rfl,Pb (by simp only [List.length_cons,List.length_nil];omega),rdL,sbd];dsimp only;rw [gdT (g:=((bif ((0:Int)==0) then ((0:Int)==0) else false)==true&&true)) rfl,Xt q2.good (by omega),sbd,gdT (g:=((bif (bif ((0:Int)==0) then ((0:Int)==0) else false) then true else false)==true&&true)) rfl,hwk];rfl
 unfold He;rw [q1,sbd,r1,sbd];dsimp only;rw [Vm q2 (by omega),sbd,Vm r2 (by omega),sbd];dsimp only;rw [rdS q2,sbd];dsimp only;rw [Vm q2 (by omega),sbd];dsimp only;rw [hself,hlm,gdT (g:=((bif (bif (bif (bif (bif ((0:Int) != 0) then true else ((0:Int) != 0)) then true else ((0:Int) != 0)) then true else ((0:Int) != 0)) then true else ((0:Int) != 0)) then true else (!true))==false&&true)) rfl,Xt q2.good (by omega),sbd,
  gdT (g:=((bif (bif (bif (bif (bif (bif ((0:Int) != 0) then true else ((0:Int) != 0)) then true else ((0:Int) != 0)) then true else ((0:Int) != 0)) then true else ((0:Int) != 0)) then true else (!true)) then true else (!true))==false&&true)) rfl,A08 q2.good (by omega),sbd]
 rw [An (c:=(bif (bif (bif (bif (bif (bif (bif ((0:Int) != 0) then true else ((0:Int) != 0)) then true else ((0:Int) != 0)) then true else ((0:Int) != 0)) then true else ((0:Int) != 0)) then true else (!true)) then true else (!true)) then true else (!(decide (L=M)==decide (L=M))))) (by cases decide (L=M)<;>rfl)]
 rw [A2k (by omega)];have:=A1y hw (F:=F) (rl L,p') (S:=Fz L) (by omega) F 0 [] (by omega) (by omega) (by simp);rw [List.drop_zero,List.nil_append] at this;rw [show (⟨#[]⟩:ByteArray)=tb [] from rfl];exact this.trans hK
end Go.Proofs.YtkjnafecmjakcaaGreatDoor
