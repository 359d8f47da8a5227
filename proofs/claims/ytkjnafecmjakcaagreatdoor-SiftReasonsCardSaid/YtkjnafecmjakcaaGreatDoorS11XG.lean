import Derived.Test.YtkjnafecmjakcaaGreatDoorS11XD
set_option linter.unusedVariables false
set_option linter.unusedSimpArgs false
set_option linter.unusedSectionVars false
namespace Go.Proofs.YtkjnafecmjakcaaGreatDoor
open Go Go.RowKit Go.Eng
set_option maxRecDepth 10000
set_option linter.unusedVariables false
set_option linter.unusedSimpArgs false
theorem ckb {β:Type} {x:Int} {f:Int→Option β} (h:-9000000000000000000≤x∧x≤9000000000000000000):(ck x).bind f=f x:=by
 unfold ck;rw [if_pos (by omega)];rfl
theorem gdT {α:Type} {g:Bool} {o:Option α} {d:α} (h:g=true):gd g o d=o:=by subst h;rfl
theorem gdF {α:Type} {g:Bool} {o:Option α} {d:α} (h:g=false):gd g o d=some d:=by subst h;rfl
theorem Be {α:Type} {c:Bool} {x y:α} (h:c=true):(bif c then x else y)=x:=by rw [h];rfl
theorem An {α:Type} {c:Bool} {x y:α} (h:c=false):(bif c then x else y)=y:=by rw [h];rfl
theorem sbd {α β:Type} {x:α} {f:α→Option β}:(some x).bind f=f x:=rfl
theorem dT {p:Prop} [Decidable p] (h:p):decide p=true:=decide_eq_true h
theorem dF {p:Prop} [Decidable p] (h:¬p):decide p=false:=decide_eq_false h
theorem D2 {α β:Type} {l:List α} {i:Int} {f:α→Option β} (n:Nat) (x:α) (hi:i=(n:Int)) (h:l[n]? = some x):(At l i).bind f=f x:=by
 subst hi;unfold At;rw [if_pos (by omega),show ((n:Int)).toNat=n by omega,h];rfl
theorem Wm {α β:Type} {x:α} {l:List α} {f:α→Option β}:(At (x::l) 0).bind f=f x:=D2 0 x rfl rfl
theorem A3r {α β:Type} {x y:α} {l:List α} {f:α→Option β}:(At (x::y::l) 1).bind f=f y:=D2 1 y rfl rfl
inductive T where
 | leaf (op v:Int)
 | un (op r g:Int) (a:T)
 | bin (op:Int) (a b:T)
 deriving DecidableEq,Inhabited
def T.op:T→Int
 | .leaf op _=>op
 | .un op _ _ _=>op
 | .bin op _ _=>op
def T.node:T→sift_Node
 | .leaf op v=>⟨op,v,0,0,[]⟩
 | .un op r g a=>⟨op,0,r,g,[a.node]⟩
 | .bin op a b=>⟨op,0,0,0,[a.node,b.node]⟩
def T.size:T→Nat
 | .leaf _ _=>1
 | .un _ _ _ a=>1+a.size
 | .bin _ a b=>1+a.size+b.size
def T.depth:T→Nat
 | .leaf _ _=>1
 | .un _ _ _ a=>1+a.depth
 | .bin _ a b=>1+max a.depth b.depth
theorem A41 (t:T):t.node.Op=t.op:=by cases t<;>rfl
def okT:Bool→T→Prop
 | true,.leaf op v=>(op=1∨op=2)∧v=0
 | false,.leaf op v=>(op=14∧0≤v∧v≤1000000000)∨(15≤op∧op≤24∧v=0)
 | true,.un op r g a=>((op=3∧r=0∧g=0)∨((op=6∨op=7)∧0≤r∧r≤3∧0≤g∧g≤3))∧okT true a
 | false,.un op r g a=>(op=25∧0≤r∧r≤3∧0≤g∧g≤3)∧okT true a
 | true,.bin op a b=>((op=4∨op=5)∧okT true a∧okT true b)∨(8≤op∧op≤13∧okT false a∧okT false b)
 | false,.bin op a b=>(op=26∨op=27)∧okT false a∧okT false b∧b.op<26
theorem okT.kind:∀{t:T} {k:Bool},okT k t→sift_isCondition t.node=k∧sift_isValue t.node=!k:=by
 intro t k h;have key:∀op:Int,(k=true→1≤op∧op≤13)→(k=false→14≤op∧op≤27)→t.node.Op=op→sift_isCondition t.node=k∧sift_isValue t.node=!k:=by
  intro op h1 h2 h3;unfold sift_isCondition sift_isValue;rw [h3]
  cases k
  ·obtain ⟨a,b⟩:=h2 rfl;refine ⟨?_,?_⟩
   ·by_cases hc:op≥1
    ·rw [Be (dT hc)];exact dF (by omega)
    ·rw [An (dF hc)]
   ·rw [Be (dT (by omega))];exact dT (by omega)
  ·obtain ⟨a,b⟩:=h1 rfl;refine ⟨?_,?_⟩
   ·rw [Be (dT (by omega))];exact dT (by omega)
   ·rw [An (dF (by omega))];rfl
 cases t with
 | leaf op v=>cases k<;>simp only [okT] at h<;>exact key op (fun e=>by cases e<;>omega) (fun e=>by cases e<;>omega) rfl
 | un op r g a=>cases k<;>simp only [okT] at h<;>exact key op (fun e=>by cases e<;>omega) (fun e=>by cases e<;>omega) rfl
 | bin op a b=>cases k<;>simp only [okT] at h<;>exact key op (fun e=>by cases e<;>omega) (fun e=>by cases e<;>omega) rfl
end Go.Proofs.YtkjnafecmjakcaaGreatDoor
namespace Go.Proofs.YtkjnafecmjakcaaGreatDoor
open Go Go.RowKit Go.Eng
set_option maxRecDepth 10000
set_option linter.unusedVariables false
set_option linter.unusedSimpArgs false
theorem T.size_pos (t:T):1≤t.size:=by cases t<;>simp only [T.size]<;>omega
theorem T.depth_le (t:T):t.depth≤t.size:=by
 induction t with
 | leaf op v=>simp only [T.depth,T.size];omega
 | un op r g a ih=>simp only [T.depth,T.size];omega
 | bin op a b iha ihb=>simp only [T.depth,T.size];omega
theorem Us (F:Nat) (p:sift_Node) (m:Int):Ei (F+1) p m=Co (Ei F) p m F 0 1:=rfl
theorem A6j {self_:sift_Node→Int→Option Int} {p:sift_Node} {m x y:Int} {n:Nat}:Co self_ p m (n+1) x y=Gr self_ p m (Co self_ p m n) x y:=rfl
theorem Z5 {self_:sift_Node→Int→Option Int} {p u:sift_Node} {m x y z:Int} {n i:Nat} (hx:x=(i:Int)) (hi:p.Args[i]? = some u) (hl:p.Args.length≤2) (hm:y≤m) (hm2:0≤y∧m≤1000000) (hz:self_ u (m-y)=some z) (hz2:0≤z∧z≤1000000) :
  Co self_ p m (n+1) x y=Co self_ p m n (x+1) (y+z):=by
 have hlt:=(List.getElem?_eq_some_iff.1 hi).1;rw [A6j,Gr,Be (dT (by omega)),D2 i u hx hi,An (dF (by omega)),ckb (by omega),hz,sbd,ckb (by omega),ckb (by omega)]
theorem Xi {self_:sift_Node→Int→Option Int} {p:sift_Node} {m x y:Int} {n:Nat} (hx:(p.Args.length:Int)≤x):Co self_ p m (n+1) x y=some y:=by
 rw [A6j,Gr,An (dF (by omega))];rfl
theorem Vy:∀(t:T) (F:Nat) (m:Int),t.size+4≤F→(t.size:Int)≤m→m≤1000000→Ei F t.node m=some (t.size:Int):=by
 intro t
 induction t with
 | leaf op v =>
  intro F m hF h1 h2;obtain ⟨F,rfl⟩:∃G,F=G+2:=⟨F-2,by simp only [T.size] at hF;omega⟩;rw [Us];exact Xi (Int.le_refl _)
 | un op r g a ih =>
  intro F m hF h1 h2;simp only [T.size] at hF h1;have:=a.size_pos;obtain ⟨F,rfl⟩:∃G,F=G+3:=⟨F-3,by omega⟩;rw [Us];rw [Z5 (p:=(T.un op r g a).node) (x:=0) (y:=1) (i:=0) (u:=a.node) rfl rfl (by simp [T.node]) (by omega) (by omega) (ih (F+2) (m-1) (by omega) (by omega) (by omega)) (by omega),Xi (by simp [T.node])];simp only [T.size];congr 1
 | bin op a b iha ihb =>
  intro F m hF h1 h2;simp only [T.size] at hF h1;have:=a.size_pos;have:=b.size_pos;obtain ⟨F,rfl⟩:∃G,F=G+4:=⟨F-4,by omega⟩;rw [Us];rw [Z5 (p:=(T.bin op a b).node) (x:=0) (y:=1) (i:=0) (u:=a.node) rfl rfl (by simp [T.node]) (by omega) (by omega) (iha (F+3) (m-1) (by omega) (by omega) (by omega)) (by omega),
   Z5 (p:=(T.bin op a b).node) (x:=0+1) (i:=1) (u:=b.node) rfl rfl (by simp [T.node]) (by omega) (by omega) (ihb (F+3) (m-(1+a.size)) (by omega) (by omega) (by omega)) (by omega),Xi (by simp [T.node])]
  simp only [T.size];congr 1
theorem Z7 (F:Nat) (p:sift_Node):Jr (F+1) p=Ej (Jr F) p F 0 0:=rfl
theorem dpL {self_:sift_Node→Option Int} {p:sift_Node} {x y:Int} {n:Nat}:Ej self_ p (n+1) x y=Ky self_ p (Ej self_ p n) x y:=rfl
theorem A1y {self_:sift_Node→Option Int} {p u:sift_Node} {x y z:Int} {n i:Nat} (hy:y=(i:Int)) (hi:p.Args[i]? = some u) (hl:p.Args.length≤2) (hz:self_ u=some z) :
  Ej self_ p (n+1) x y=Ej self_ p n (if z>x then z else x) (y+1):=by
 have hlt:=(List.getElem?_eq_some_iff.1 hi).1;rw [dpL,Ky,Be (dT (by omega)),D2 i u hy hi,hz,sbd,ckb (by omega)]
theorem Z8 {self_:sift_Node→Option Int} {p:sift_Node} {x y:Int} {n:Nat} (hy:(p.Args.length:Int)≤y) (hx:-9000000000≤x∧x≤9000000000):Ej self_ p (n+1) x y=some (x+1):=by
 rw [dpL,Ky,An (dF (by omega)),P5,ckb (by omega)]
theorem A00:∀(t:T) (F:Nat),t.depth+4≤F→t.depth≤1000000→Jr F t.node=some (t.depth:Int):=by
 intro t
 induction t with
 | leaf op v =>
  intro F hF h1;obtain ⟨F,rfl⟩:∃G,F=G+2:=⟨F-2,by simp only [T.depth] at hF;omega⟩;rw [Z7];exact Z8 (Int.le_refl _) (by omega)
 | un op r g a ih =>
  intro F hF h1;simp only [T.depth] at hF h1;obtain ⟨F,rfl⟩:∃G,F=G+3:=⟨F-3,by omega⟩;rw [Z7];rw [A1y (p:=(T.un op r g a).node) (y:=0) (i:=0) (u:=a.node) rfl rfl (by simp [T.node]) (ih (F+2) (by omega) (by omega)),Z8 (by simp [T.node]) (by split<;>omega)];simp only [T.depth];congr 1;split<;>omega
 | bin op a b iha ihb =>
  intro F hF h1;simp only [T.depth] at hF h1;obtain ⟨F,rfl⟩:∃G,F=G+4:=⟨F-4,by omega⟩;rw [Z7];rw [A1y (p:=(T.bin op a b).node) (y:=0) (i:=0) (u:=a.node) rfl rfl (by simp [T.node]) (iha (F+3) (by omega) (by omega)),A1y (p:=(T.bin op a b).node) (y:=0+1) (i:=1) (u:=b.node) rfl rfl (by simp [T.node]) (ihb (F+3) (by omega) (by omega)),Z8 (by simp [T.node]) (by split<;>split<;>omega)];simp only [T.depth];congr 1;split<;>split<;>omega
structure StL (self_:sift_Node→Option Bool) (p:sift_Node) (k:Bool) (L:Nat→Int→Option Bool):Prop where
 go:∀n (i:Nat) u,p.Args[i]? = some u→p.Args.length≤2→sift_isCondition u=k→sift_isValue u=!k→self_ u=some true→L (n+1) (i:Int)=L n ((i:Int)+1)
 fin:∀n x,(p.Args.length:Int)≤x→p.Op<26→L (n+1) x=some true
 fin2:∀n x u,(p.Args.length:Int)≤x→26≤p.Op→p.Args[1]? = some u→u.Op<26→L (n+1) x=some true
theorem A77 {self_:sift_Node→Option Bool} {p:sift_Node}:StL self_ p true (Kl self_ p):=by
 refine ⟨fun n i u hi hl h1 h2 h3=>?_,fun n x hx ho=>?_,fun n x u hx ho hu hu2=>?_⟩
 ·have hlt:=(List.getElem?_eq_some_iff.1 hi).1;show E0 self_ p _ _=_;rw [E0,Be (dT (by omega)),D2 i u rfl hi,h1,gdT (g:=(!true)==false&&true) rfl,h3,sbd,An (c:=bif (!true) then true else (!true)) rfl,ckb (by omega)]
 ·show E0 self_ p _ _=_;rw [E0,An (dF (by omega)),Kh,Be (dT ho)]
 ·show E0 self_ p _ _=_;rw [E0,An (dF (by omega)),Kh,An (dF (by omega)),D2 (i:=1) 1 u rfl hu,dT hu2]
theorem A78 {self_:sift_Node→Option Bool} {p:sift_Node}:StL self_ p true (Km self_ p):=by
 refine ⟨fun n i u hi hl h1 h2 h3=>?_,fun n x hx ho=>?_,fun n x u hx ho hu hu2=>?_⟩
 ·have hlt:=(List.getElem?_eq_some_iff.1 hi).1;show E2 self_ p _ _=_;rw [E2,Be (dT (by omega)),D2 i u rfl hi,h1,gdT (g:=(!true)==false&&true) rfl,h3,sbd,An (c:=bif (!true) then true else (!true)) rfl,ckb (by omega)]
 ·show E2 self_ p _ _=_;rw [E2,An (dF (by omega)),Ki,Be (dT ho)]
 ·show E2 self_ p _ _=_;rw [E2,An (dF (by omega)),Ki,An (dF (by omega)),D2 (i:=1) 1 u rfl hu,dT hu2]
theorem A79 {self_:sift_Node→Option Bool} {p:sift_Node}:StL self_ p true (Kn self_ p):=by
 refine ⟨fun n i u hi hl h1 h2 h3=>?_,fun n x hx ho=>?_,fun n x u hx ho hu hu2=>?_⟩
 ·have hlt:=(List.getElem?_eq_some_iff.1 hi).1;show E3 self_ p _ _=_;rw [E3,Be (dT (by omega)),D2 i u rfl hi,h1,gdT (g:=(!true)==false&&true) rfl,h3,sbd,An (c:=bif (!true) then true else (!true)) rfl,ckb (by omega)]
 ·show E3 self_ p _ _=_;rw [E3,An (dF (by omega)),Kj,Be (dT ho)]
 ·show E3 self_ p _ _=_;rw [E3,An (dF (by omega)),Kj,An (dF (by omega)),D2 (i:=1) 1 u rfl hu,dT hu2]
theorem A7a {self_:sift_Node→Option Bool} {p:sift_Node}:StL self_ p false (Ko self_ p):=by
 refine ⟨fun n i u hi hl h1 h2 h3=>?_,fun n x hx ho=>?_,fun n x u hx ho hu hu2=>?_⟩
 ·have hlt:=(List.getElem?_eq_some_iff.1 hi).1;show E4 self_ p _ _=_;rw [E4,Be (dT (by omega)),D2 i u rfl hi,h2,gdT (g:=(!!false)==false&&true) rfl,h3,sbd,An (c:=bif (!!false) then true else (!true)) rfl,ckb (by omega)]
 ·show E4 self_ p _ _=_;rw [E4,An (dF (by omega)),Kk,Be (dT ho)]
 ·show E4 self_ p _ _=_;rw [E4,An (dF (by omega)),Kk,An (dF (by omega)),D2 (i:=1) 1 u rfl hu,dT hu2]
theorem A1a {g r v:Int} (hg:0≤g) (hr:0≤r) (hv:0≤v):¬(if g<if r<v then r else v then g else if r<v then r else v)<0:=by split<;>split<;>omega
theorem A19 {g r m:Int} (hg:g≤m) (hr:r≤m):¬(if g>r then g else r)>m:=by split<;>omega
theorem eqT {a b:Int} (h:a=b):(a==b)=true:=by subst h;exact beq_self_eq_true _
theorem eqF {a b:Int} (h:a≠b):(a==b)=false:=beq_eq_false_iff_ne.2 h
theorem neF {a b:Int} (h:a=b):(a != b)=false:=by subst h;simp
theorem neT {a b:Int} (h:a≠b):(a != b)=true:=by simp [h]
theorem Xd:∀(t:T) (k:Bool) (F:Nat),okT k t→t.size+5≤F→De F t.node=some true:=by
 intro t
 induction t with
 | leaf op v =>
  intro k F h hF;obtain ⟨F,rfl⟩:∃G,F=G+2:=⟨F-2,by simp only [T.size] at hF;omega⟩;have hk:=h.kind;show Eo (F+1) (De (F+1)) ⟨op,v,0,0,[]⟩=_;have h3:op≠3∧op≠4∧op≠5∧op≠6∧op≠7∧op≠25∧op≠26∧op≠27∧¬(8≤op∧op≤13)∧op<26∧0≤v∧(op=14→v≤1000000000)∧(op≠14→v=0):=by
   cases k<;>simp only [okT] at h<;>refine ⟨?_,?_,?_,?_,?_,?_,?_,?_,?_,?_,?_,?_,?_⟩<;>omega
  obtain ⟨a1,a2,a3,a4,a5,a6,a7,a8,a9,a10,a11,a12,a13⟩:=h3;have e8:(bif decide (op≥8) then decide (op≤13) else false)=false:=by
   by_cases hc:op≥8
   ·rw [Be (dT hc)];exact dF (by omega)
   ·rw [An (dF hc)]
  have hL:(([]:List sift_Node).length:Int)=0:=rfl;unfold Eo;dsimp only;rw [An (eqF a1),eqF a2,eqF a3,An (c:=false) rfl,An (c:=false) rfl,eqF a4,eqF a5,eqF a6,An (c:=false) rfl,An (c:=false) rfl,An (c:=false) rfl,e8,eqF a7,eqF a8,An (c:=false) rfl,An (c:=false) rfl,An (c:=false) rfl]
  by_cases h14:op=14
  ·rw [Be (eqT h14),hL,neF rfl,An (c:=false) rfl,dF (A1a (Int.le_refl 0) (Int.le_refl 0) a11),An (c:=false) rfl,dF (show ¬v>1000000000 by have:=a12 h14;omega),An (c:=false) rfl,dF (A19 (Int.le_refl 0) (Int.le_refl 0)),An (c:=false) rfl];show Jk _ _ _ _=_;rw [Jk,An (dF (by simp)),Mk,Be (dT a10)]
  ·have hv:=a13 h14;subst hv;rw [An (eqF h14)];have e9:(bif (!(sift_isCondition ⟨op,0,0,0,[]⟩)) then (!(sift_isValue ⟨op,0,0,0,[]⟩)) else false)=false:=by
    have h1:sift_isCondition ⟨op,0,0,0,[]⟩=k:=hk.1;have h2:sift_isValue ⟨op,0,0,0,[]⟩=!k:=hk.2;rw [h1,h2];cases k<;>rfl
   rw [An e9,hL,neF rfl,An (c:=false) rfl,dF (A1a (Int.le_refl 0) (Int.le_refl 0) (Int.le_refl 0)),An (c:=false) rfl,dF (show ¬(0:Int)>0 by omega),An (c:=false) rfl,dF (A19 (Int.le_refl 0) (Int.le_refl 0)),An (c:=false) rfl];show Jl _ _ _ _=_;rw [Jl,An (dF (by simp)),Lq,Be (dT a10)]
 | un op r g a ih =>
  intro k F h hF;simp only [T.size] at hF;have:=a.size_pos;obtain ⟨F,rfl⟩:∃G,F=G+3:=⟨F-3,by omega⟩;show Eo (F+2) (De (F+2)) ⟨op,0,r,g,[a.node]⟩=_;have ha:okT true a:=by cases k<;>simp only [okT] at h<;>exact h.2
  have hs:=ih true (F+2) ha (by omega);have hk:=ha.kind;have hL:(([a.node]:List sift_Node).length:Int)=1:=rfl;have fin:∀(L:Nat→Int→Option Bool),StL (De (F+2)) ⟨op,0,r,g,[a.node]⟩ true L→op<26→L (F+2) 0=some true:=fun L hLL ho=>by
   have h1:=hLL.go (F+1) 0 a.node rfl (by simp) hk.1 hk.2 hs;have h2:=hLL.fin F ((0:Nat)+1:Int) (by simp) ho;exact h1.trans h2
  unfold Eo;dsimp only
  by_cases h3:op=3
  ·have hrg:r=0∧g=0:=by cases k<;>simp only [okT] at h<;>omega
   obtain ⟨rfl,rfl⟩:=hrg;rw [Be (eqT h3),hL,neF rfl,An (c:=false) rfl,dF (A1a (Int.le_refl 0) (Int.le_refl 0) (Int.le_refl 0)),An (c:=false) rfl,dF (show ¬(0:Int)>0 by omega),An (c:=false) rfl,dF (A19 (Int.le_refl 0) (Int.le_refl 0)),An (c:=false) rfl];exact fin _ A77 (by omega)
  ·have hop:(op=6∨op=7∨op=25)∧0≤r∧r≤3∧0≤g∧g≤3:=by cases k<;>simp only [okT] at h<;>omega
   obtain ⟨hop,r1,r2,g1,g2⟩:=hop;have e6:(bif (bif (op==6) then true else (op==7)) then true else (op==25))=true:=by
    rcases hop with rfl|rfl|rfl<;>rfl
   rw [An (eqF h3),eqF (show op≠4 by omega),eqF (show op≠5 by omega),An (c:=false) rfl,An (c:=false) rfl,Be e6,hL,neF rfl,An (c:=false) rfl,dF (A1a g1 r1 (Int.le_refl 0)),An (c:=false) rfl,dF (show ¬(0:Int)>0 by omega),An (c:=false) rfl,dF (A19 g2 r2),An (c:=false) rfl];exact fin _ A79 (by omega)
 | bin op a b iha ihb =>
  intro k F h hF;simp only [T.size] at hF;have:=a.size_pos;have:=b.size_pos;obtain ⟨F,rfl⟩:∃G,F=G+4:=⟨F-4,by omega⟩;show Eo (F+3) (De (F+3)) ⟨op,0,0,0,[a.node,b.node]⟩=_;have hL:(([a.node,b.node]:List sift_Node).length:Int)=2:=rfl;have fin:∀(q:Bool) (L:Nat→Int→Option Bool),StL (De (F+3)) ⟨op,0,0,0,[a.node,b.node]⟩ q L→okT q a→okT q b→(26≤op→b.op<26)→L (F+3) 0=some true:=fun q L hLL ha hb ho=>by
   have h1:=hLL.go (F+2) 0 a.node rfl (by simp) ha.kind.1 ha.kind.2 (iha q (F+3) ha (by omega));have h2:=hLL.go (F+1) 1 b.node rfl (by simp) hb.kind.1 hb.kind.2 (ihb q (F+3) hb (by omega));have h3:L (F+1) ((1:Nat)+1:Int)=some true:=by
    by_cases hc:op<26
    ·exact hLL.fin F _ (by simp) hc
    ·exact hLL.fin2 F _ b.node (by simp) (by show 26≤op;omega) rfl (by rw [A41];exact ho (by omega))
   exact h1.trans (h2.trans h3)
  unfold Eo;dsimp only;have h3:op≠3:=by cases k<;>simp only [okT] at h<;>omega
  rw [An (eqF h3)]
  by_cases h4:op=4∨op=5
  ·have hab:okT true a∧okT true b:=by
    cases k<;>simp only [okT] at h
    ·omega
    ·rcases h with h|h
     ·exact h.2
     ·omega
   have e4:(bif (op==4) then true else (op==5))=true:=by rcases h4 with rfl|rfl<;>rfl
   rw [Be e4,hL,neF rfl,An (c:=false) rfl,dF (A1a (Int.le_refl 0) (Int.le_refl 0) (Int.le_refl 0)),An (c:=false) rfl,dF (show ¬(0:Int)>0 by omega),An (c:=false) rfl,dF (A19 (Int.le_refl 0) (Int.le_refl 0)),An (c:=false) rfl];exact fin true _ A78 hab.1 hab.2 (by omega)
  ·have hab:okT false a∧okT false b∧(26≤op→b.op<26)∧(8≤op∧op≤13∨op=26∨op=27):=by
    cases k<;>simp only [okT] at h
    ·exact ⟨h.2.1,h.2.2.1,fun _=>h.2.2.2,by omega⟩
    ·rcases h with h|h
     ·omega
     ·exact ⟨h.2.2.1,h.2.2.2,by omega,by omega⟩
   obtain ⟨ha,hb,ho,hop⟩:=hab;have e8:(bif (bif (bif decide (op≥8) then decide (op≤13) else false) then true else (op==26)) then true else (op==27))=true:=by
    rcases hop with ⟨h1,h2⟩|rfl|rfl
    ·rw [dT h1,dT h2];rfl
    ·rfl
    ·rfl
   rw [eqF (show op≠4 by omega),eqF (show op≠5 by omega),An (c:=false) rfl,An (c:=false) rfl,eqF (show op≠6 by omega),eqF (show op≠7 by omega),eqF (show op≠25 by omega),An (c:=false) rfl,An (c:=false) rfl,An (c:=false) rfl,Be e8,hL,neF rfl,An (c:=false) rfl,dF (A1a (Int.le_refl 0) (Int.le_refl 0) (Int.le_refl 0)),An (c:=false) rfl,dF (show ¬(0:Int)>0 by omega),An (c:=false) rfl,dF (A19 (Int.le_refl 0) (Int.le_refl 0)),An (c:=false) rfl];exact fin false _ A7a ha hb ho
end Go.Proofs.YtkjnafecmjakcaaGreatDoor
namespace Go.Proofs.YtkjnafecmjakcaaGreatDoor
open Go Go.RowKit Go.Eng
set_option maxRecDepth 10000
set_option linter.unusedVariables false
set_option linter.unusedSimpArgs false
def tb (l:List UInt8):ByteArray:=⟨l.toArray⟩
theorem A69 (a b:List UInt8):tb a++tb b=tb (a++b):=by
 apply ByteArray.ext;show (tb a++tb b).data=_;rw [ByteArray.data_append];simp [tb]
theorem A0g (a:List UInt8):(tb a).size=a.length:=by simp [tb,ByteArray.size]
theorem A34 {a b:List UInt8} (h:tb a=tb b):a=b:=by
 have:=congrArg (fun x:ByteArray=>x.data.toList) h
 simpa [tb] using this
theorem Tx {β:Type} {a b:List UInt8} {f:ByteArray→Option β} (h:a.length+b.length≤9000000000):(P0 (tb a) (tb b)).bind f=f (tb (a++b)):=by
 unfold P0;rw [if_pos (by rw [A0g,A0g];omega),sbd,A69]
def wd (op:Int):List UInt8:=((C1.1[op.toNat]?).getD ⟨#[]⟩).data.toList
theorem wdb {β:Type} {op:Int} {f:ByteArray→Option β} (h:0≤op∧op≤27):(Xm C1 op).bind f=f (tb (wd op)):=by
 unfold Xm;have hl:op.toNat<C1.1.length:=by rw [C1.2];omega
 rw [D2 op.toNat (C1.1[op.toNat]) (by omega) (List.getElem?_eq_getElem hl)];unfold wd;rw [List.getElem?_eq_getElem hl]
 congr 1
def textT:T→List UInt8
 | .leaf op v=>if op=14 then Lib.itoa v else wd op
 | .un op r g a=>if op=3 then wd 3++(32::textT a) else wd op++(32::(Lib.itoa r++(32::(Lib.itoa g++(32::textT a)))))
 | .bin op a b=>if op<14 then 40::(textT a++(32::(wd op++(32::(textT b++[41]))))) else textT a++(32::(wd op++(32::textT b)))
theorem V9 (op:Int):(wd op).length≤6:=by
 have key:∀i:Fin 28,((C1.1[i.val]?).getD ⟨#[]⟩).data.toList.length≤6:=by decide
 unfold wd
 by_cases h:op.toNat<28
 ·exact key ⟨op.toNat,h⟩
 ·rw [List.getElem?_eq_none (by rw [C1.2];omega)];simp
theorem A4z:∀(k u:Nat),u<10 ^ (k+1)→Lib.nDigits u≤k+1
 | 0,u,h=>by rw [Lib.nDigits_small (by simpa using h)];omega
 | k+1,u,h=>by
  by_cases hu:u<10
  ·rw [Lib.nDigits_small hu];omega
  ·rw [Lib.nDigits_big hu];have:=A4z k (u/10) (by rw [Nat.pow_succ] at h;omega);omega
theorem S1 {v:Int} (h:0≤v∧v≤1000000000):(Lib.itoa v).length≤10:=by
 obtain ⟨u,rfl⟩:∃u:Nat,v=u:=⟨v.toNat,by omega⟩;rw [Lib.itoa_nonneg,Lib.decDigits_length];exact A4z 9 u (by omega)
theorem Wk:∀(t:T) (k:Bool),okT k t→(textT t).length≤40*t.size:=by
 intro t
 induction t with
 | leaf op v =>
  intro k h;simp only [textT,T.size]
  split
  ·have:=S1 (v:=v) (by cases k<;>simp only [okT] at h<;>omega);omega
  ·have:=V9 op;omega
 | un op r g a ih =>
  intro k h;have ha:okT true a:=by cases k<;>simp only [okT] at h<;>exact h.2
  have h1:=ih true ha;have hr:0≤r∧r≤1000000000:=by cases k<;>simp only [okT] at h<;>omega
  have hg:0≤g∧g≤1000000000:=by cases k<;>simp only [okT] at h<;>omega
  have:=S1 hr;have:=S1 hg;have:=V9 op;have:=V9 3;simp only [textT,T.size]
  split<;>simp only [List.length_append,List.length_cons]<;>omega
 | bin op a b iha ihb =>
  intro k h;have hab:(∃q,okT q a)∧∃q,okT q b:=by
   cases k<;>simp only [okT] at h
   ·exact ⟨⟨_,h.2.1⟩,⟨_,h.2.2.1⟩⟩
   ·rcases h with h|h
    ·exact ⟨⟨_,h.2.1⟩,⟨_,h.2.2⟩⟩
    ·exact ⟨⟨_,h.2.2.1⟩,⟨_,h.2.2.2⟩⟩
  obtain ⟨⟨q,ha⟩,q',hb⟩:=hab;have:=iha q ha;have:=ihb q' hb;have:=V9 op;simp only [textT,T.size]
  split<;>simp only [List.length_append,List.length_cons,List.length_nil]<;>omega
theorem A27 {β:Type} {F:Nat} {v:Int} {f:ByteArray→Option β} (h:0≤v∧v≤1000000000):(strconv_Itoa F v).bind f=f (tb (Lib.itoa v)):=by
 unfold strconv_Itoa;rw [if_pos (by omega),sbd];rfl
theorem Zq (F:Nat) (p:sift_Node):Cj (F+1) p=G1 F (Cj F) p:=rfl
theorem A31:(⟨#[32]⟩:ByteArray)=tb [32]:=rfl
theorem T1:∀(t:T) (k:Bool) (F:Nat),okT k t→t.size+2≤F→t.size≤1000000→Cj F t.node=some (tb (textT t)):=by
 intro t
 induction t with
 | leaf op v =>
  intro k F h hF _;obtain ⟨F,rfl⟩:∃G,F=G+1:=⟨F-1,by simp only [T.size] at hF;omega⟩;have h0:0≤op∧op≤27:=by cases k<;>simp only [okT] at h<;>omega
  rw [Zq];show G1 F _ ⟨op,v,0,0,[]⟩=_;unfold G1;dsimp only;rw [wdb h0]
  by_cases h14:op=14
  ·rw [Be (eqT h14),A27 (by cases k<;>simp only [okT] at h<;>omega)]
   simp only [textT,if_pos h14]
  ·rw [An (eqF h14),An (eqF (show op≠3 by cases k<;>simp only [okT] at h<;>omega)),An (eqF (show (([]:List sift_Node).length:Int)≠1 by simp)),Be (eqT (show (([]:List sift_Node).length:Int)=0 by simp))]
   simp only [textT,if_neg h14]
 | un op r g a ih =>
  intro k F h hF hs;simp only [T.size] at hF hs;obtain ⟨F,rfl⟩:∃G,F=G+1:=⟨F-1,by omega⟩;have h0:0≤op∧op≤27∧op≠14:=by cases k<;>simp only [okT] at h<;>omega
  have ha:okT true a:=by cases k<;>simp only [okT] at h<;>exact h.2
  have hr:0≤r∧r≤1000000000:=by cases k<;>simp only [okT] at h<;>omega
  have hg:0≤g∧g≤1000000000:=by cases k<;>simp only [okT] at h<;>omega
  have hi:=ih true F ha (by omega) (by omega);have hl:=Wk a true ha;have l1:=S1 hr;have l2:=S1 hg;have l3:=V9 op;rw [Zq];show G1 F _ ⟨op,0,r,g,[a.node]⟩=_;unfold G1;dsimp only;rw [wdb ⟨h0.1,h0.2.1⟩,An (eqF h0.2.2)]
  by_cases h3:op=3
  ·subst h3;rw [Be (eqT rfl),A31,Tx (by simp;omega),Wm,hi,sbd,Tx (by simp;omega)];simp only [textT,if_pos,List.append_assoc,List.singleton_append]
  ·rw [An (eqF h3),Be (eqT (show (([a.node]:List sift_Node).length:Int)=1 by simp)),A31,Tx (by simp;omega),A27 hr,Tx (by simp;omega),Tx (by simp;omega),A27 hg,Tx (by simp;omega),Tx (by simp;omega),Wm,hi,sbd,Tx (by simp;omega)];simp only [textT,if_neg h3,List.append_assoc,List.singleton_append,List.cons_append,List.nil_append]
 | bin op a b iha ihb =>
  intro k F h hF hs;simp only [T.size] at hF hs;obtain ⟨F,rfl⟩:∃G,F=G+1:=⟨F-1,by omega⟩;have h0:0≤op∧op≤27∧op≠14∧op≠3:=by cases k<;>simp only [okT] at h<;>omega
  have hab:(∃q,okT q a)∧∃q,okT q b:=by
   cases k<;>simp only [okT] at h
   ·exact ⟨⟨_,h.2.1⟩,⟨_,h.2.2.1⟩⟩
   ·rcases h with h|h
    ·exact ⟨⟨_,h.2.1⟩,⟨_,h.2.2⟩⟩
    ·exact ⟨⟨_,h.2.2.1⟩,⟨_,h.2.2.2⟩⟩
  obtain ⟨⟨q,ha⟩,q',hb⟩:=hab;have hia:=iha q F ha (by omega) (by omega);have hib:=ihb q' F hb (by omega) (by omega);have hl:=Wk a q ha;have hl2:=Wk b q' hb;have l3:=V9 op;rw [Zq];show G1 F _ ⟨op,0,0,0,[a.node,b.node]⟩=_;unfold G1;dsimp only;rw [wdb ⟨h0.1,h0.2.1⟩,An (eqF h0.2.2.1),An (eqF h0.2.2.2),An (eqF (show (([a.node,b.node]:List sift_Node).length:Int)≠1 by simp)),An (eqF (show (([a.node,b.node]:List sift_Node).length:Int)≠0 by simp)),
   Wm,hia,sbd,A31,Tx (by simp;omega),Tx (by simp;omega),Tx (by simp;omega),A3r,hib,sbd,Tx (by simp;omega)]
  by_cases h14:op<14
  ·rw [Be (dT h14),show (⟨#[40]⟩:ByteArray)=tb [40] from rfl,show (⟨#[41]⟩:ByteArray)=tb [41] from rfl,Tx (by simp;omega),Tx (by simp;omega)];simp only [textT,if_pos h14,List.append_assoc,List.singleton_append,List.cons_append,List.nil_append]
  ·rw [An (dF h14)];simp only [textT,if_neg h14,List.append_assoc,List.singleton_append,List.cons_append,List.nil_append]
end Go.Proofs.YtkjnafecmjakcaaGreatDoor
namespace Go.Proofs.YtkjnafecmjakcaaGreatDoor
open Go Go.RowKit Go.Eng
set_option maxRecDepth 10000
set_option linter.unusedVariables false
set_option linter.unusedSimpArgs false
def Qj (c:UInt8):Bool:=decide (48≤c.toNat)&&decide (c.toNat≤57)
def Vs (u:List UInt8):Prop:=∀c r,u=c::r→Qj c=false
def Va (u:List UInt8):Prop:=Vs u∧∀c r,u=32::c::r→c≠43∧c≠45
theorem Sz (r:List UInt8):Vs (32::r):=fun c q h=>by cases h;rfl
theorem Z6:∀(n:Nat),∀c∈Lib.decDigits n,Qj c=true:=by
 intro n
 induction n using Nat.strongRecOn with
 | _ n ih =>
  have one:∀i:Fin 10,Qj (UInt8.ofNat (48+i.val))=true:=by decide
  intro c hc;rw [Lib.decDigits] at hc
  split at hc
  ·rename_i h
   rw [List.mem_singleton] at hc;subst hc;exact one ⟨n,h⟩
  ·rcases List.mem_append.1 hc with hc|hc
   ·exact ih (n/10) (by omega) c hc
   ·rw [List.mem_singleton] at hc;subst hc;exact one ⟨n%10,Nat.mod_lt _ (by omega)⟩
def A38 (l:List UInt8):Nat:=l.foldl (fun a c=>10*a+(c.toNat-48)) 0
theorem Zz (n:Nat):A38 (Lib.decDigits n)=n:=by
 induction n using Nat.strongRecOn with
 | _ n ih =>
  have one:∀i:Fin 10,(UInt8.ofNat (48+i.val)).toNat-48=i.val:=by decide
  rw [Lib.decDigits]
  split
  ·rename_i h
   show 10*0+((UInt8.ofNat (48+n)).toNat-48)=n;rw [one ⟨n,h⟩];show 10*0+n=n;omega
  ·have e:=ih (n/10) (by omega);unfold A38 at e ⊢;rw [List.foldl_append,e];show 10*(n/10)+((UInt8.ofNat (48+n%10)).toNat-48)=n;rw [one ⟨n%10,Nat.mod_lt _ (by omega)⟩];show 10*(n/10)+n%10=n;omega
theorem A0f {l x:List UInt8} (hl:∀c∈l,Qj c=true) (hx:Vs x):(l++x).takeWhile Qj=l:=by
 induction l with
 | nil =>
  cases x with
  | nil=>rfl
  | cons c r=>simp [hx c r rfl]
 | cons c l ih=>simp [hl c (by simp),ih (fun d hd=>hl d (by simp [hd]))]
theorem Zj {v v':Int} {x y:List UInt8} (h0:0≤v) (h1:0≤v') (hx:Vs x) (hy:Vs y) (h:Lib.itoa v++x=Lib.itoa v'++y):v=v'∧x=y:=by
 obtain ⟨a,rfl⟩:∃a:Nat,v=a:=⟨v.toNat,by omega⟩;obtain ⟨b,rfl⟩:∃b:Nat,v'=b:=⟨v'.toNat,by omega⟩;rw [Lib.itoa_nonneg,Lib.itoa_nonneg] at h;have e:=congrArg (List.takeWhile Qj) h;rw [A0f (Z6 a) hx,A0f (Z6 b) hy] at e;have e2:=congrArg A38 e;rw [Zz,Zz] at e2;subst e2;exact ⟨rfl,List.append_cancel_left h⟩
theorem A15 {v:Int} (h:0≤v):∃c r,Lib.itoa v=c::r∧Qj c=true:=by
 obtain ⟨a,rfl⟩:∃a:Nat,v=a:=⟨v.toNat,by omega⟩;rw [Lib.itoa_nonneg]
 cases hd:Lib.decDigits a with
 | nil =>
  have:=Lib.decDigits_length a;rw [hd] at this;have:=Lib.nDigits_pos a;simp at *;omega
 | cons c r=>exact ⟨c,r,rfl,Z6 a c (by rw [hd];simp)⟩
def U4:List Int:=[1,2,3,6,7,15,16,17,18,19,20,21,22,23,24,25]
def Un:List Int:=[4,5,8,9,10,11,12,13]
theorem W4:∀a∈U4,∀b∈U4,List.isPrefixOf (wd a) (wd b)=true→a=b:=by decide
theorem Wi:∀a∈Un,∀b∈Un,List.isPrefixOf (wd a++[32]) (wd b++[32])=true→a=b:=by decide
theorem A11:∀a∈U4,∃c r,wd a=c::r∧Qj c=false∧c≠40:=by
 intro a ha;have key:∀a∈U4,(match wd a with|[]=>false|c::_=>!Qj c&&decide (c≠40))=true:=by decide
 have:=key a ha
 cases hw:wd a with
 | nil=>rw [hw] at this;cases this
 | cons c r =>
  rw [hw] at this;simp at this;exact ⟨c,r,rfl,this.1,this.2⟩
theorem A4q {a b:Int} {x y:List UInt8} (ha:a∈U4) (hb:b∈U4) (h:wd a++x=wd b++y):a=b∧x=y:=by
 have hp:wd a <+: wd b∨wd b <+: wd a:=List.prefix_or_prefix_of_prefix (l₃:=wd a++x) (List.prefix_append _ _) (h▸List.prefix_append _ _);have e:a=b:=by
  rcases hp with hp|hp
  ·exact W4 a ha b hb (List.isPrefixOf_iff_prefix.2 hp)
  ·exact (W4 b hb a ha (List.isPrefixOf_iff_prefix.2 hp)).symm
 subst e;exact ⟨rfl,List.append_cancel_left h⟩
theorem A4d {a b:Int} {x y:List UInt8} (ha:a∈Un) (hb:b∈Un) (h:wd a++(32::x)=wd b++(32::y)):a=b∧x=y:=by
 have h2:(wd a++[32])++x=(wd b++[32])++y:=by simpa using h
 have hp:(wd a++[32]) <+: (wd b++[32])∨(wd b++[32]) <+: (wd a++[32]):=List.prefix_or_prefix_of_prefix (l₃:=(wd a++[32])++x) (List.prefix_append _ _) (h2▸List.prefix_append _ _);have e:a=b:=by
  rcases hp with hp|hp
  ·exact Wi a ha b hb (List.isPrefixOf_iff_prefix.2 hp)
  ·exact (Wi b hb a ha (List.isPrefixOf_iff_prefix.2 hp)).symm
 subst e;exact ⟨rfl,List.append_cancel_left h2⟩
theorem Vk:∀a∈Un,∀r,Va (32::(wd a++r)):=by
 intro a ha r;have key:∀a∈Un,(match wd a with|[]=>false|c::_=>decide (c≠43)&&decide (c≠45))=true:=by decide
 have:=key a ha;refine ⟨Sz _,fun c q h=>?_⟩
 cases hw:wd a with
 | nil=>rw [hw] at this;cases this
 | cons d s =>
  rw [hw] at this h;simp at this h;rw [←h.1];exact this
def T.hd:T→T
 | .bin op a b=>if op<14 then .bin op a b else a.hd
 | t=>t
def T.tl:T→List (Int×T)
 | .bin op a b=>if op<14 then [] else a.tl++[(op,b)]
 | _=>[]
def T.mk (h:T) (l:List (Int×T)):T:=l.foldl (fun a p=>.bin p.1 a p.2) h
theorem T.eta (t:T):T.mk t.hd t.tl=t:=by
 induction t with
 | leaf op v=>rfl
 | un op r g a ih=>rfl
 | bin op a b iha ihb =>
  unfold T.hd T.tl
  split
  ·rfl
  ·unfold T.mk at *;rw [List.foldl_append,iha];rfl
def Po (l:List (Int×T)):List UInt8:=l.flatMap fun p=>32::(wd p.1++(32::textT p.2))
theorem Yv (t:T):textT t=textT t.hd++Po t.tl:=by
 induction t with
 | leaf op v=>simp [T.hd,T.tl,Po]
 | un op r g a ih=>simp [T.hd,T.tl,Po]
 | bin op a b iha ihb =>
  by_cases h:op<14
  ·simp only [T.hd,T.tl,if_pos h,Po,List.flatMap_nil,List.append_nil]
  ·simp only [T.hd,T.tl,if_neg h];rw [textT,if_neg h,iha];unfold Po;simp
def Itm (t:T):Prop:=t.op<26∧∃k,okT k t
theorem T.hd_size (t:T):t.hd.size≤t.size:=by
 induction t with
 | leaf op v=>exact Nat.le_refl _
 | un op r g a ih=>exact Nat.le_refl _
 | bin op a b iha ihb =>
  unfold T.hd
  split
  ·exact Nat.le_refl _
  ·simp only [T.size];omega
theorem A4x:∀(t:T) (k:Bool),okT k t→Itm t.hd∧∀p∈t.tl,(p.1=26∨p.1=27)∧Itm p.2∧p.2.size<t.size:=by
 intro t
 induction t with
 | leaf op v=>intro k h;exact ⟨⟨by show op<26;cases k<;>simp only [okT] at h<;>omega,k,h⟩,fun p hp=>by simp [T.tl] at hp⟩
 | un op r g a ih=>intro k h;exact ⟨⟨by show op<26;cases k<;>simp only [okT] at h<;>omega,k,h⟩,fun p hp=>by simp [T.tl] at hp⟩
 | bin op a b iha ihb =>
  intro k h
  by_cases hop:op<14
  ·simp only [T.hd,T.tl,if_pos hop];exact ⟨⟨by show op<26;omega,k,h⟩,fun p hp=>by simp at hp⟩
  ·simp only [T.hd,T.tl,if_neg hop];have hk:(op=26∨op=27)∧okT false a∧okT false b∧b.op<26:=by
    cases k<;>simp only [okT] at h
    ·exact h
    ·omega
   obtain ⟨h1,h2,h3,h4⟩:=hk;obtain ⟨i1,i2⟩:=iha false h2;refine ⟨i1,fun p hp=>?_⟩;rcases List.mem_append.1 hp with hp|hp
   ·obtain ⟨j1,j2,j3⟩:=i2 p hp;exact ⟨j1,j2,by simp only [T.size];omega⟩
   ·simp at hp;subst hp;exact ⟨h1,⟨h4,_,h3⟩,by simp only [T.size];have:=a.size_pos;omega⟩
def PCi (n:Nat):Prop:=∀t t':T,t.size≤n→Itm t→Itm t'→∀u u',Vs u→Vs u'→textT t++u=textT t'++u'→t=t'∧u=u'
def PCa (n:Nat):Prop:=∀(t t':T) (k k':Bool),t.size≤n→okT k t→okT k' t'→∀u u',Va u→Va u'→textT t++u=textT t'++u'→t=t'∧u=u'
theorem T0 {l:List (Int×T)} {u:List UInt8} (h:Vs u):Vs (Po l++u):=by
 cases l with
 | nil=>exact h
 | cons p l=>exact Sz _
theorem A4o:wd 26=[43]:=by decide
theorem A4p:wd 27=[45]:=by decide
theorem A4j {n:Nat} (hP:PCi n):∀(l l':List (Int×T)),(∀p∈l,(p.1=26∨p.1=27)∧Itm p.2∧p.2.size≤n)→(∀p∈l',(p.1=26∨p.1=27)∧Itm p.2)→∀u u',Va u→Va u'→Po l++u=Po l'++u'→l=l'∧u=u':=by
 have no:∀(p:Int×T) (l:List (Int×T)) (u u':List UInt8),(p.1=26∨p.1=27)→Va u→Po (p::l)++u'=u→False:=by
  intro p l u u' hp hu h;have e:∃c r,u=32::c::r∧(c=43∨c=45):=by
   rw [←h];simp only [Po,List.flatMap_cons,List.cons_append,List.append_assoc];rcases hp with hp|hp
   ·rw [hp,A4o];exact ⟨43,_,rfl,.inl rfl⟩
   ·rw [hp,A4p];exact ⟨45,_,rfl,.inr rfl⟩
  obtain ⟨c,r,e1,e2⟩:=e;have:=hu.2 c r e1;rcases e2 with rfl|rfl
  ·exact this.1 rfl
  ·exact this.2 rfl
 intro l
 induction l with
 | nil =>
  intro l' _ h2 u u' hu hu' h
  cases l' with
  | nil=>exact ⟨rfl,h⟩
  | cons p l'=>exact (no p l' u u' (h2 p (by simp)).1 hu h.symm).elim
 | cons p l ih =>
  intro l' h1 h2 u u' hu hu' h
  cases l' with
  | nil=>exact (no p l u' u (h1 p (by simp)).1 hu' h).elim
  | cons p' l' =>
   obtain ⟨o1,i1,s1⟩:=h1 p (by simp);obtain ⟨o2,i2⟩:=h2 p' (by simp);simp only [Po,List.flatMap_cons,List.cons_append,List.append_assoc] at h;have h:=(List.cons.inj h).2;have e:p.1=p'.1∧textT p.2++(Po l++u)=textT p'.2++(Po l'++u'):=by
    rcases o1 with o1|o1<;>rcases o2 with o2|o2<;>rw [o1,o2] at h ⊢
    ·exact ⟨rfl,by simpa [A4o,Po] using h⟩
    ·rw [A4o,A4p] at h;simp at h
    ·rw [A4o,A4p] at h;simp at h
    ·exact ⟨rfl,by simpa [A4p,Po] using h⟩
   obtain ⟨e1,e2⟩:=hP p.2 p'.2 s1 i1 i2 _ _ (T0 hu.1) (T0 hu'.1) e.2;obtain ⟨e3,e4⟩:=ih l' (fun q hq=>h1 q (by simp [hq])) (fun q hq=>h2 q (by simp [hq])) u u' hu hu' e2;refine ⟨?_,e4⟩;rw [e3,show p=p' from Prod.ext e.1 e1]
theorem PCi.all {n:Nat} (h:PCi n):PCa n:=by
 intro t t' k k' hs h1 h2 u u' hu hu' he;obtain ⟨a1,a2⟩:=A4x t k h1;obtain ⟨b1,b2⟩:=A4x t' k' h2;rw [Yv t,Yv t',List.append_assoc,List.append_assoc] at he;obtain ⟨e1,e2⟩:=h t.hd t'.hd (Nat.le_trans t.hd_size hs) a1 b1 _ _ (T0 hu.1) (T0 hu'.1) he;obtain ⟨e3,e4⟩:=A4j h t.tl t'.tl (fun p hp=>⟨(a2 p hp).1,(a2 p hp).2.1,by have:=(a2 p hp).2.2;omega⟩) (fun p hp=>⟨(b2 p hp).1,(b2 p hp).2.1⟩) u u' hu hu' e2;refine ⟨?_,e4⟩;rw [←t.eta,←t'.eta,e1,e3]
theorem A0l {c:UInt8} {x y:List UInt8} (h:c::x=c::y):x=y:=(List.cons.inj h).2
theorem V2 {op:Int} (h:op=1∨op=2∨op=3∨op=6∨op=7∨(15≤op∧op≤25)):op∈U4:=by
 have:op=1∨op=2∨op=3∨op=6∨op=7∨op=15∨op=16∨op=17∨op=18∨op=19∨op=20∨op=21∨op=22∨op=23∨op=24∨op=25:=by omega
 simp [U4];omega
theorem X9 {op:Int} (h:op=4∨op=5∨(8≤op∧op≤13)):op∈Un:=by simp [Un];omega
inductive Beg where
 | num (v:Int)
 | word (op:Int) (r:List UInt8)
 | open_ (r:List UInt8)
def Beg.tx:Beg→List UInt8
 | .num v=>Lib.itoa v
 | .word op r=>wd op++r
 | .open_ r=>40::r
def Beg.ok:Beg→Prop
 | .num v=>0≤v
 | .word op _=>op∈U4
 | .open_ _=>True
theorem A5b {a b:Beg} {u u':List UInt8} (ha:a.ok) (hb:b.ok) (hu:Vs u) (hu':Vs u') (h:a.tx++u=b.tx++u') :
  (∃v,a=.num v∧b=.num v∧u=u')∨(∃op r r',a=.word op r∧b=.word op r'∧r++u=r'++u')∨∃r r',a=.open_ r∧b=.open_ r'∧r++u=r'++u':=by
 have first:∀(x:Beg),x.ok→∀w,∃c q,x.tx++w=c::q∧(match x with|.num _=>Qj c=true|.word _ _=>Qj c=false∧c≠40|.open_ _=>c=40):=by
  intro x hx w
  cases x with
  | num v =>
   obtain ⟨c,r,e,hd⟩:=A15 hx;exact ⟨c,r++w,by show Lib.itoa v++w=_;rw [e];rfl,hd⟩
  | word op r =>
   obtain ⟨c,s,e,h1,h2⟩:=A11 op hx;exact ⟨c,s++r++w,by show wd op++r++w=_;rw [e];rfl,h1,h2⟩
  | open_ r=>exact ⟨40,r++w,rfl,rfl⟩
 obtain ⟨c,q,e1,k1⟩:=first a ha u
 obtain ⟨c',q',e2,k2⟩:=first b hb u'
 have hc:c=c':=by rw [e1,e2] at h;exact (List.cons.inj h).1
 subst hc;have d40:Qj 40=false:=by decide
 cases a with
 | num v =>
  cases b with
  | num v' =>
   obtain ⟨rfl,e⟩:=Zj ha hb hu hu' h;exact .inl ⟨v,rfl,rfl,e⟩
  | word op r =>
   have k1:Qj c=true:=k1;have k2:Qj c=false∧c≠40:=k2;rw [k1] at k2;cases k2.1
  | open_ r =>
   have k1:Qj c=true:=k1;have k2:c=40:=k2;subst k2;rw [d40] at k1;cases k1
 | word op r =>
  cases b with
  | num v' =>
   have k1:Qj c=false∧c≠40:=k1;have k2:Qj c=true:=k2;rw [k2] at k1;cases k1.1
  | word op' r' =>
   have h:wd op++r++u=wd op'++r'++u':=h;rw [List.append_assoc,List.append_assoc] at h;obtain ⟨rfl,e⟩:=A4q ha hb h;exact .inr (.inl ⟨op,r,r',rfl,rfl,e⟩)
  | open_ r' =>
   have k1:Qj c=false∧c≠40:=k1;have k2:c=40:=k2;exact (k1.2 k2).elim
 | open_ r =>
  have k1:c=40:=k1
  cases b with
  | num v' =>
   have k2:Qj c=true:=k2;subst k1;rw [d40] at k2;cases k2
  | word op' r' =>
   have k2:Qj c=false∧c≠40:=k2;exact (k2.2 k1).elim
  | open_ r'=>exact .inr (.inr ⟨r,r',rfl,rfl,(List.cons.inj h).2⟩)
def T.beg:T→Beg
 | .leaf op v=>if op=14 then .num v else .word op []
 | .un op r g a=>if op=3 then .word 3 (32::textT a) else .word op (32::(Lib.itoa r++(32::(Lib.itoa g++(32::textT a)))))
 | .bin op a b=>.open_ (textT a++(32::(wd op++(32::(textT b++[41])))))
theorem A1n {t:T} (h:Itm t):t.beg.ok∧textT t=t.beg.tx:=by
 obtain ⟨h1,k,h2⟩:=h
 cases t with
 | leaf op v =>
  have h1:op<26:=h1
  by_cases q:op=14
  ·simp only [T.beg,textT,if_pos q];exact ⟨by show 0≤v;cases k<;>simp only [okT] at h2<;>omega,rfl⟩
  ·simp only [T.beg,textT,if_neg q];exact ⟨V2 (by cases k<;>simp only [okT] at h2<;>omega),(List.append_nil _).symm⟩
 | un op r g a =>
  have h1:op<26:=h1
  by_cases q:op=3
  ·simp only [T.beg,textT,if_pos q];exact ⟨V2 (by omega),rfl⟩
  ·simp only [T.beg,textT,if_neg q];exact ⟨V2 (by cases k<;>simp only [okT] at h2<;>omega),rfl⟩
 | bin op a b =>
  have h3:op<14:=by
   have h1:op<26:=h1
   cases k<;>simp only [okT] at h2<;>omega
  simp only [T.beg,textT,if_pos h3];exact ⟨trivial,rfl⟩
theorem A0n (op v:Int):(op=14∧(T.leaf op v).beg=.num v)∨(op≠14∧(T.leaf op v).beg=.word op []):=by
 by_cases q:op=14
 ·exact .inl ⟨q,by simp only [T.beg,if_pos q]⟩
 ·exact .inr ⟨q,by simp only [T.beg,if_neg q]⟩
theorem A0o (op r g:Int) (a:T):(op=3∧(T.un op r g a).beg=.word 3 (32::textT a))∨(op≠3∧(T.un op r g a).beg=.word op (32::(Lib.itoa r++(32::(Lib.itoa g++(32::textT a)))))):=by
 by_cases q:op=3
 ·exact .inl ⟨q,by simp only [T.beg,if_pos q]⟩
 ·exact .inr ⟨q,by simp only [T.beg,if_neg q]⟩
theorem A3d (op:Int) (a b:T):(T.bin op a b).beg=.open_ (textT a++(32::(wd op++(32::(textT b++[41]))))):=rfl
theorem okL {k:Bool} {op v:Int} (h:okT k (.leaf op v)):0≤v∧(op≠14→v=0)∧op≠3∧(op<7∨op=14∨(15≤op∧op≤25)):=by cases k<;>simp only [okT] at h<;>omega
theorem okU {k:Bool} {op r g:Int} {x:T} (h:okT k (.un op r g x)):okT true x∧0≤r∧0≤g∧(op=3→r=0∧g=0):=by
 cases k<;>simp only [okT] at h
 ·exact ⟨h.2,by omega,by omega,by omega⟩
 ·exact ⟨h.2,by omega,by omega,by omega⟩
theorem A43 {k k':Bool} {op v r g:Int} {x:T} (h:okT k (.leaf op v)) (h':okT k' (.un op r g x)):False:=by cases k<;>cases k'<;>simp only [okT] at h h'<;>omega
theorem okB {k:Bool} {op:Int} {a b:T} (h:okT k (.bin op a b)) (h2:op<26):(∃q,okT q a)∧(∃q,okT q b)∧op∈Un:=by
 cases k<;>simp only [okT] at h
 ·omega
 ·rcases h with h|h
  ·exact ⟨⟨_,h.2.1⟩,⟨_,h.2.2⟩,X9 (by omega)⟩
  ·exact ⟨⟨_,h.2.2.1⟩,⟨_,h.2.2.2⟩,X9 (by omega)⟩
theorem U6 {x:T} (h:okT true x):Itm x:=⟨by cases x<;>simp only [okT] at h<;>simp only [T.op]<;>omega,_,h⟩
theorem A44:∀n,PCi n:=by
 intro n
 induction n with
 | zero=>intro t t' hs;have:=t.size_pos;omega
 | succ n ih =>
  have hA:=ih.all;intro t t' hs h1 h2 u u' hu hu' he;obtain ⟨a1,a2⟩:=A1n h1;obtain ⟨b1,b2⟩:=A1n h2;rw [a2,b2] at he;obtain ⟨h3,k,h4⟩:=h1;obtain ⟨h5,k',h6⟩:=h2;have paren:∀r,Va (41::r):=fun r=>⟨fun c q h=>by cases h;rfl,fun c q h=>by cases h⟩
  have he:=A5b a1 b1 hu hu' he
  cases t with
  | leaf op1 w =>
   obtain ⟨o1,o2,-,-⟩:=okL h4
   cases t' with
   | leaf op2 w' =>
    obtain ⟨o3,o4,-,-⟩:=okL h6;rcases A0n op1 w with ⟨q1,q2⟩|⟨q1,q2⟩<;>rcases A0n op2 w' with ⟨q3,q4⟩|⟨q3,q4⟩<;>rw [q2,q4] at he <;>
     rcases he with ⟨v,e1,e2,e3⟩|⟨op,r,r',e1,e2,e3⟩|⟨r,r',e1,e2,e3⟩<;>cases e1<;>cases e2
    ·exact ⟨by rw [q1,q3],e3⟩
    ·exact ⟨by rw [o2 q1,o4 q1],e3⟩
   | un op2 r2 g2 y =>
    exfalso;rcases A0n op1 w with ⟨q1,q2⟩|⟨q1,q2⟩<;>rcases A0o op2 r2 g2 y with ⟨q3,q4⟩|⟨q3,q4⟩<;>rw [q2,q4] at he <;>
     rcases he with ⟨v,e1,e2,e3⟩|⟨op,r,r',e1,e2,e3⟩|⟨r,r',e1,e2,e3⟩<;>cases e1<;>cases e2
    ·subst q3;exact A43 h4 h6
    ·exact A43 h4 h6
   | bin op2 a' b' =>
    exfalso;rcases A0n op1 w with ⟨q1,q2⟩|⟨q1,q2⟩<;>rw [q2,A3d] at he <;>
     rcases he with ⟨v,e1,e2,e3⟩|⟨op,r,r',e1,e2,e3⟩|⟨r,r',e1,e2,e3⟩<;>cases e1<;>cases e2
  | un op1 r1 g1 x =>
   obtain ⟨hx,z1,z2,z3⟩:=okU h4;simp only [T.size] at hs
   cases t' with
   | leaf op2 w' =>
    exfalso;rcases A0o op1 r1 g1 x with ⟨q1,q2⟩|⟨q1,q2⟩<;>rcases A0n op2 w' with ⟨q3,q4⟩|⟨q3,q4⟩<;>rw [q2,q4] at he <;>
     rcases he with ⟨v,e1,e2,e3⟩|⟨op,r,r',e1,e2,e3⟩|⟨r,r',e1,e2,e3⟩<;>cases e1<;>cases e2
    ·subst q1;exact A43 h6 h4
    ·exact A43 h6 h4
   | un op2 r2 g2 y =>
    obtain ⟨hy,y1,y2,y3⟩:=okU h6;rcases A0o op1 r1 g1 x with ⟨q1,q2⟩|⟨q1,q2⟩<;>rcases A0o op2 r2 g2 y with ⟨q3,q4⟩|⟨q3,q4⟩<;>rw [q2,q4] at he <;>
     rcases he with ⟨v,e1,e2,e3⟩|⟨op,r,r',e1,e2,e3⟩|⟨r,r',e1,e2,e3⟩<;>cases e1<;>cases e2
    ·obtain ⟨e4,e5⟩:=ih x y (by omega) (U6 hx) (U6 hy) u u' hu hu' (A0l e3);exact ⟨by rw [q1,q3,(z3 q1).1,(z3 q1).2,(y3 q3).1,(y3 q3).2,e4],e5⟩
    ·exact (q3 rfl).elim
    ·exact (q1 rfl).elim
    ·have e4:=A0l e3;have e4:Lib.itoa r1++(32::(Lib.itoa g1++(32::(textT x++u))))=Lib.itoa r2++(32::(Lib.itoa g2++(32::(textT y++u')))):=by simpa using e4
     obtain ⟨f1,f2⟩:=Zj z1 y1 (Sz _) (Sz _) e4;obtain ⟨f3,f4⟩:=Zj z2 y2 (Sz _) (Sz _) (A0l f2);obtain ⟨f5,f6⟩:=ih x y (by omega) (U6 hx) (U6 hy) u u' hu hu' (A0l f4);exact ⟨by rw [f1,f3,f5],f6⟩
   | bin op2 a' b' =>
    exfalso;rcases A0o op1 r1 g1 x with ⟨q1,q2⟩|⟨q1,q2⟩<;>rw [q2,A3d] at he <;>
     rcases he with ⟨v,e1,e2,e3⟩|⟨op,r,r',e1,e2,e3⟩|⟨r,r',e1,e2,e3⟩<;>cases e1<;>cases e2
  | bin op1 a b =>
   have h3:op1<26:=h3;obtain ⟨⟨q1,oa⟩,⟨q2,ob⟩,os⟩:=okB h4 h3;simp only [T.size] at hs;rw [A3d] at he
   cases t' with
   | leaf op2 w' =>
    exfalso;rcases A0n op2 w' with ⟨q3,q4⟩|⟨q3,q4⟩<;>rw [q4] at he <;>
     rcases he with ⟨v,e1,e2,e3⟩|⟨op,r,r',e1,e2,e3⟩|⟨r,r',e1,e2,e3⟩<;>cases e1<;>cases e2
   | un op2 r2 g2 y =>
    exfalso;rcases A0o op2 r2 g2 y with ⟨q3,q4⟩|⟨q3,q4⟩<;>rw [q4] at he <;>
     rcases he with ⟨v,e1,e2,e3⟩|⟨op,r,r',e1,e2,e3⟩|⟨r,r',e1,e2,e3⟩<;>cases e1<;>cases e2
   | bin op2 a' b' =>
    have h5:op2<26:=h5;obtain ⟨⟨q3,oa'⟩,⟨q4,ob'⟩,os'⟩:=okB h6 h5;rw [A3d] at he;rcases he with ⟨v,e1,e2,e3⟩|⟨op,r,r',e1,e2,e3⟩|⟨r,r',e1,e2,e3⟩<;>cases e1<;>cases e2
    simp only [List.append_assoc,List.cons_append,List.nil_append] at e3;obtain ⟨f1,f2⟩:=hA a a' q1 q3 (by omega) oa oa' _ _ (Vk op1 os _) (Vk op2 os' _) e3;obtain ⟨f3,f4⟩:=A4d os os' (A0l f2);obtain ⟨f5,f6⟩:=hA b b' q2 q4 (by omega) ob ob' _ _ (paren _) (paren _) f4;exact ⟨by rw [f1,f3,f5],A0l f6⟩
theorem Yw {t t':T} {k k':Bool} (h:okT k t) (h':okT k' t') (e:textT t=textT t'):t=t' :=
 have sn:Va []:=⟨(fun _ _ h=>by simp at h),(fun _ _ h=>by simp at h)⟩
 ((A44 t.size).all t t' k k' (Nat.le_refl _) h h' [] [] sn sn (by rw [e])).1
end Go.Proofs.YtkjnafecmjakcaaGreatDoor
namespace Go.Proofs.YtkjnafecmjakcaaGreatDoor
open Go Go.RowKit Go.Eng
set_option maxRecDepth 10000
set_option linter.unusedVariables false
set_option linter.unusedSimpArgs false
def tab {α:Type} (n:Nat) (f:Int→α):List α:=(List.range n).map fun i:Nat=>f (i:Int)
theorem A4i {α:Type} (n:Nat) (f:Int→α):(tab n f).length=n:=by simp [tab]
theorem A0e {α:Type} {n i:Nat} {f:Int→α} (h:i<n):(tab n f)[i]? = some (f i):=by simp [tab,h]
theorem Rl {α β:Type} {n:Nat} {f:Int→α} {g:α→Option β} {i:Int} (h:0≤i∧i<n):(At (tab n f) i).bind g=g (f i):=by
 obtain ⟨j,rfl⟩:∃j:Nat,i=j:=⟨i.toNat,by omega⟩;exact D2 j _ rfl (A0e (by omega))
theorem A3k {α:Type} {L:Nat→Int→Int→List α→Option (List α)} {f:Int→Option α} {g:Int→α} {N:Nat}
  (hL:∀n x i l,L (n+1) x i l=bif decide (i<x) then ((f i).bind fun y=>(At l i).bind fun _=>(Hp l i y).bind fun l'=>(ck (i+1)).bind fun i'=>L n x i' l') else some l)
  (hf:∀i:Int,0≤i→i<N→f i=some (g i)) (hN:N≤1000000) :
  ∀(F j:Nat) (l:List α),l.length=N→N+1≤F+j→j≤N→(∀i:Nat,i<j→l[i]? = some (g i))→L F N j l=some (tab N g):=by
 intro F
 induction F with
 | zero=>intro j l _ h1 h2;omega
 | succ F ih =>
  intro j l hl h1 h2 h3;rw [hL]
  by_cases hj:j<N
  ·rw [Be (dT (by omega)),hf j (by omega) (by omega),sbd,D2 j _ rfl (List.getElem?_eq_getElem (by omega)),show Hp l (j:Int) (g j)=some (l.set j (g j)) by unfold Hp;rw [if_pos (by omega),Int.toNat_natCast],sbd,ckb (by omega)];refine ih (j+1) _ (by simp [hl]) (by omega) (by omega) fun i hi=>?_
   by_cases e:i=j
   ·subst e;rw [List.getElem?_set_self (by omega)]
   ·rw [List.getElem?_set_ne (by omega)];exact h3 i (by omega)
  ·rw [An (dF (by omega))]
   congr 1
   apply List.ext_getElem?;intro i
   by_cases hi:i<N
   ·rw [h3 i (by omega),A0e hi]
   ·rw [List.getElem?_eq_none (by omega),List.getElem?_eq_none (by rw [A4i];omega)]
theorem Pr {α:Type} {L:Nat→Int→Int→List α→Option (List α)} {f:Int→Option α} {g:Int→α} {N F B:Nat} {p:Int} {z:α}
  (hL:∀n x i l,L (n+1) x i l=bif decide (i<x) then ((f i).bind fun y=>(At l i).bind fun _=>(Hp l i y).bind fun l'=>(ck (i+1)).bind fun i'=>L n x i' l') else some l)
  (hf:∀i:Int,0≤i→i<N→f i=some (g i)) (hN:N≤1000000) (hF:N+1≤F) (hp:p=N) (hB:B≤1000) :
  ((mkI B p z).bind fun l=>L F ((l.length:Nat):Int) 0 l)=some (tab N g):=by
 subst hp;have hm:B*N≤1000*1000000:=Nat.mul_le_mul hB hN;unfold mkI;rw [if_pos (by simp only [Int.toNat_natCast];omega),sbd,List.length_replicate];exact A3k hL hf hN F 0 _ (by simp) (by omega) (by omega) (fun i hi=>by omega)
def irg (lo hi:Int):List Int:=(List.range (hi+1-lo).toNat).map fun i:Nat=>lo+(i:Int)
theorem A0a {lo hi:Int} (h:hi<lo):irg lo hi=[]:=by
 unfold irg;rw [show (hi+1-lo).toNat=0 by omega];rfl
theorem Yb {lo hi:Int} (h:lo≤hi):irg lo hi=lo::irg (lo+1) hi:=by
 unfold irg;rw [show (hi+1-lo).toNat=(hi+1-(lo+1)).toNat+1 by omega,List.range_succ_eq_map,List.map_cons,List.map_map]
 congr 1
 ·simp
 ·apply List.map_congr_left;intro i _;show lo+((i+1:Nat):Int)=lo+1+(i:Int);omega
theorem A2f {q j R m:Int} (h1:0≤q) (h2:q<R) (h3:0≤j) (h4:j<m):0≤q*m+j∧q*m+j<R*m:=by
 have a:0≤q*m:=Int.mul_nonneg h1 (by omega);have b:(q+1)*m≤R*m:=Int.mul_le_mul_of_nonneg_right (by omega) (by omega);rw [Int.add_mul] at b;omega
def nb1 (R m k g b:Int):List Int:=((irg (if k%m-g>0 then k%m-g else 0) (if k%m+g<m-1 then k%m+g else m-1)).map fun j=>(b+R)%R*m+j).filter fun o=>o != k
def nbs (R m k r g:Int):List Int:=(if k/m+r-(k/m-r)≥R then irg 0 (R-1) else irg (k/m-r) (k/m+r)).flatMap (nb1 R m k g)
section
variable {σ:Type} {body:σ→Int→Option (σ×Bool)} {f:σ→Int→σ} {P:σ→Nat→Prop} {d:sift_scan} {R m k r g:Int}
theorem ar4 (hR:((d.s.Rays.length:Nat):Int)=R) (hm:d.s.Site.Gates=m) (hR1:1≤R∧R≤1000) (hm1:1≤m∧m≤1000) (hk:0≤k∧k≤1000000) (hg:0≤g∧g≤3)
  (hb:∀s o c,P s c→0≤o→o<R*m→c≤1000000→body s o=some (f s o,true)∧P (f s o) (c+1)) (b:Int) (hb0:0≤b+R∧b≤1000) (k2:Int→σ→Option (σ×Bool)) :
  ∀(n:Nat) (j:Int) (s:σ) (c:Nat),P s c→0≤j→((if k%m+g<m-1 then k%m+g else m-1)+1-j).toNat+1≤n→c+((if k%m+g<m-1 then k%m+g else m-1)+1-j).toNat≤1000000 →
  ∃c',P ((((irg j (if k%m+g<m-1 then k%m+g else m-1)).map fun j=>(b+R)%R*m+j).filter fun o=>o != k).foldl f s) c'∧c'≤c+((if k%m+g<m-1 then k%m+g else m-1)+1-j).toNat ∧
   Cr body k g d (k%m) b k2 n j s=Du b k2 ((((irg j (if k%m+g<m-1 then k%m+g else m-1)).map fun j=>(b+R)%R*m+j).filter fun o=>o != k).foldl f s):=by
 have hkm:0≤k%m∧k%m<m:=⟨Int.emod_nonneg _ (by omega),Int.emod_lt_of_pos _ (by omega)⟩;generalize hhi:(if k%m+g<m-1 then k%m+g else m-1)=hi;have hhi2:hi≤m-1:=by subst hhi;split<;>omega
 have hq:0≤(b+R)%R∧(b+R)%R<R:=⟨Int.emod_nonneg _ (by omega),Int.emod_lt_of_pos _ (by omega)⟩;have hMM:R*m≤1000000:=by
  have:=Int.mul_le_mul hR1.2 hm1.2 (by omega) (by omega);omega
 intro n
 induction n with
 | zero=>intro j s c _ _ h;omega
 | succ n ih =>
  intro j s c hP hj hn hc;show ∃c',_∧_∧Dr body k g d (k%m) b k2 (Cr body k g d (k%m) b k2 n) j s=_;unfold Dr;rw [hm,hR,ckb (by omega),ckb (by omega),hhi]
  by_cases hjh:j≤hi
  ·have hin:=A2f hq.1 hq.2 hj (show j<m by omega);have hqm:0≤(b+R)%R*m:=Int.mul_nonneg hq.1 (by omega);rw [Be (dT hjh),ckb (by omega)];rw [show R7 (b+R) R=some ((b+R)%R) by unfold R7;rw [if_neg (by omega),Int.tmod_eq_emod_of_nonneg (by omega)],sbd,ckb (by omega),ckb (by omega),Yb hjh,List.map_cons]
   by_cases ho:(b+R)%R*m+j=k
   ·rw [An (neF ho),ckb (by omega),List.filter_cons_of_neg (p:=fun o=>o != k) (a:=(b+R)%R*m+j) (by show ¬(((b+R)%R*m+j) != k)=true;rw [neF ho];simp)];obtain ⟨c',h1,h2,h3⟩:=ih (j+1) s c hP (by omega) (by omega) (by omega);exact ⟨c',h1,by omega,h3⟩
   ·obtain ⟨e1,e2⟩:=hb s _ c hP hin.1 hin.2 (by omega);rw [Be (neT ho),e1,sbd,Be rfl,ckb (by omega),List.filter_cons_of_pos (p:=fun o=>o != k) (a:=(b+R)%R*m+j) (neT ho),List.foldl_cons];obtain ⟨c',h1,h2,h3⟩:=ih (j+1) _ (c+1) e2 (by omega) (by omega) (by omega);exact ⟨c',h1,by omega,h3⟩
  ·rw [An (dF hjh),A0a (by omega)];exact ⟨c,hP,by omega,rfl⟩
theorem ar2 (hR:((d.s.Rays.length:Nat):Int)=R) (hm:d.s.Site.Gates=m) (hR1:1≤R∧R≤1000) (hm1:1≤m∧m≤1000) (hk:0≤k∧k≤1000000) (hg:0≤g∧g≤3)
  (hb:∀s o c,P s c→0≤o→o<R*m→c≤1000000→body s o=some (f s o,true)∧P (f s o) (c+1)) (last:Int) (hl:last≤1000) (F:Nat) (hF:1002≤F) :
  ∀(n:Nat) (b:Int) (s:σ) (c:Nat),P s c→0≤b+R→(last+1-b).toNat+1≤n→c+(last+1-b).toNat*1000≤1000000 →
   C5 F body k g d (k%m) last n b s=some (((irg b last).flatMap (nb1 R m k g)).foldl f s,true):=by
 have hkm:0≤k%m∧k%m<m:=⟨Int.emod_nonneg _ (by omega),Int.emod_lt_of_pos _ (by omega)⟩;intro n
 induction n with
 | zero=>intro b s c _ _ h;omega
 | succ n ih =>
  intro b s c hP hb0 hn hc;show Dq F body k g d (k%m) last (C5 F body k g d (k%m) last n) b s=_;unfold Dq
  by_cases hbl:b≤last
  ·rw [Be (dT hbl),ckb (by omega),Yb hbl,List.flatMap_cons,List.foldl_append];have hhi:(if k%m+g<m-1 then k%m+g else m-1)≤999:=by split<;>omega
   have hlo:0≤(if k%m-g>0 then k%m-g else 0):=by split<;>omega
   obtain ⟨c',h1,h2,h3⟩:=ar4 hR hm hR1 hm1 hk hg hb b (by omega) (C5 F body k g d (k%m) last n) F (if k%m-g>0 then k%m-g else 0) s c hP hlo (by omega) (by omega);rw [h3];unfold Du;rw [ckb (by omega)];exact ih (b+1) _ c' h1 (by omega) (by omega) (by omega)
  ·rw [An (dF hbl),A0a (by omega)];rfl
theorem X0 (hR:((d.s.Rays.length:Nat):Int)=R) (hm:d.s.Site.Gates=m) (hR1:4≤R∧R≤500) (hm1:1≤m∧m≤1000) (hk:0≤k∧k<R*m) (hr:0≤r∧r≤3) (hg:0≤g∧g≤3)
  (hb:∀s o c,P s c→0≤o→o<R*m→c≤1000000→body s o=some (f s o,true)∧P (f s o) (c+1)) {F:Nat} (hF:1002≤F) {s:σ} (h0:P s 0) :
  E5 F (some d) k r g body s=some ((nbs R m k r g).foldl f s,true):=by
 have hMM:R*m≤500000:=by
  have:=Int.mul_le_mul hR1.2 hm1.2 (by omega) (by omega);omega
 have hd:0≤k/m∧k/m<R:=⟨Int.ediv_nonneg hk.1 (by omega),Int.ediv_lt_of_lt_mul (by omega) hk.2⟩;unfold E5;rw [sbd,hm,hR,show Ws k m=some (k/m) by unfold Ws;rw [if_neg (by omega),Int.tdiv_eq_ediv_of_nonneg hk.1];unfold ck;rw [if_pos (by omega)],sbd,
  show R7 k m=some (k%m) by unfold R7;rw [if_neg (by omega),Int.tmod_eq_emod_of_nonneg hk.1],sbd,ckb (by omega),ckb (by omega),ckb (by omega)]
 unfold nbs Dt
 by_cases h:k/m+r-(k/m-r)≥R
 ·rw [Be (dT h),if_pos h,ckb (by omega)];exact ar2 hR hm ⟨by omega,by omega⟩ hm1 ⟨hk.1,by omega⟩ hg hb _ (by omega) F hF F 0 s 0 h0 (by omega) (by omega) (by omega)
 ·rw [An (dF h),if_neg h];exact ar2 hR hm ⟨by omega,by omega⟩ hm1 ⟨hk.1,by omega⟩ hg hb _ (by omega) F hF F _ s 0 h0 (by omega) (by omega) (by omega)
end
end Go.Proofs.YtkjnafecmjakcaaGreatDoor
namespace Go.Proofs.YtkjnafecmjakcaaGreatDoor
open Go Go.RowKit Go.Eng
set_option maxRecDepth 10000
set_option linter.unusedVariables false
set_option linter.unusedSimpArgs false
def Uh (s:api_Sweep) (k:Int):api_Echo:=((s.Rays[(k/s.Site.Gates).toNat]?.getD [])[(k%s.Site.Gates).toNat]?).getD default
def pt (n:Int):sift_val:=⟨⟨n,n⟩,true⟩
def noV:sift_val:=⟨⟨0,0⟩,false⟩
def Uy (s:api_Sweep) (op v k:Int):sift_val :=
 if op=14 then pt v else if op=21 then pt (Uh s k).Kind else if op=22 then pt (k/s.Site.Gates) else if op=23 then pt (k%s.Site.Gates) else if op=24 then pt s.Tilt else if op=15 then ⟨(Uh s k).Power,true⟩
 else if (Uh s k).Kind=1 then noV else if op=16 then ⟨(Uh s k).Ratio,true⟩ else if op=17 then ⟨(Uh s k).Match,true⟩ else if op=18 then pt (Uh s k).Spread else if (Uh s k).Kind=2 then noV else if op=19 then ⟨(Uh s k).Turn,true⟩ else ⟨⟨(Uh s k).Steps.1.Lo,(Uh s k).Steps.1.Hi⟩,true⟩
def tri (a b:Prop) [Decidable a] [Decidable b]:Int:=if a then 1 else if b then 2 else 3
def mx (a b:Int):Int:=if b>a then b else a
def mn (a b:Int):Int:=if b<a then b else a
def Vm (op:Int) (x y:api_Span):Int :=
 if op=8∨op=10 then tri (x.Hi<y.Lo) (x.Lo<y.Hi) else if op=9∨op=11 then tri (x.Hi≤y.Lo) (x.Lo≤y.Hi)
 else if op=12 then tri (mx x.Hi y.Hi=mn x.Lo y.Lo) (x.Lo≤y.Hi∧y.Lo≤x.Hi) else tri (x.Hi<y.Lo∨y.Hi<x.Lo) (mx x.Hi y.Hi≠mn x.Lo y.Lo)
def A0r (op:Int) (a b:sift_val):Int :=
 if a.has=false∨b.has=false then 3 else if op=10∨op=11 then Vm op b.span a.span else Vm op a.span b.span
def A1f (op:Int) (a b:sift_val):sift_val :=
 if a.has=false∨b.has=false then noV else if op=27 then ⟨⟨a.span.Lo-b.span.Hi,a.span.Hi-b.span.Lo⟩,true⟩ else ⟨⟨a.span.Lo+b.span.Lo,a.span.Hi+b.span.Hi⟩,true⟩
def Xa (op:Int) (l:List Int) (f:Int→Int):Int :=
 if op=6 then l.foldl (fun a o=>mn a (f o)) 3 else l.foldl (fun a o=>mx a (f o)) 1
def Ur (l:List Int) (f:Int→Int):sift_val:=⟨⟨l.countP fun o=>f o==1,l.countP fun o=>f o != 3⟩,true⟩
def T.sem (s:api_Sweep):T→Int→Int×sift_val
 | .leaf op v,k=>(if op=1 then 1 else 3,Uy s op v k)
 | .un op r g a,k=>(if op=3 then 4-(a.sem s k).1 else Xa op (nbs s.Rays.length s.Site.Gates k r g) fun o=>(a.sem s o).1,Ur (nbs s.Rays.length s.Site.Gates k r g) fun o=>(a.sem s o).1)
 | .bin op a b,k=>(if op=4 then mx (a.sem s k).1 (b.sem s k).1 else if op=5 then mn (a.sem s k).1 (b.sem s k).1 else A0r op (a.sem s k).2 (b.sem s k).2,A1f op (a.sem s k).2 (b.sem s k).2)
def bdS (x:api_Span):Prop:=-2147483648≤x.Lo∧x.Lo≤2147483648∧-2147483648≤x.Hi∧x.Hi≤2147483648
def bdE (e:api_Echo):Prop:=bdS e.Power∧bdS e.Ratio∧bdS e.Match∧bdS e.Turn∧bdS e.Steps.1∧bdS e.Steps.2∧0≤e.Kind∧e.Kind≤3∧0≤e.Spread∧e.Spread≤65535
structure Swp (s:api_Sweep) (R m:Nat):Prop where
 hR:s.Rays.length=R
 hm:s.Site.Gates=m
 R4:4≤R∧R≤500
 m1:1≤m∧m≤1000
 N1:R*m≤1000
 rows:∀l∈s.Rays,l.length=m
 bds:∀l∈s.Rays,∀e∈l,bdE e
 tilt:0≤s.Tilt∧s.Tilt≤256
theorem km {R m:Nat} {k:Int} (hm:1≤m) (h:0≤k∧k<(R*m:Nat)):0≤k/m∧k/m<R∧0≤k%m∧k%m<m:=by
 rw [Int.natCast_mul] at h;exact ⟨Int.ediv_nonneg h.1 (by omega),Int.ediv_lt_of_lt_mul (by omega) h.2,Int.emod_nonneg _ (by omega),Int.emod_lt_of_pos _ (by omega)⟩
theorem A0c {s:api_Sweep} {R m:Nat} (h:Swp s R m) {k:Int} (hk:0≤k∧k<(R*m:Nat)) :
  ∃row,s.Rays[(k/m).toNat]? = some row∧row[(k%m).toNat]? = some (Uh s k)∧bdE (Uh s k):=by
 obtain ⟨a,b,c,d⟩:=km h.m1.1 hk;have h1:(k/m).toNat<s.Rays.length:=by rw [h.hR];omega
 have h2:(k%m).toNat<(s.Rays[(k/m).toNat]).length:=by rw [h.rows _ (List.getElem_mem h1)];omega
 have e:Uh s k=(s.Rays[(k/m).toNat])[(k%m).toNat]:=by
  unfold Uh;rw [h.hm,List.getElem?_eq_getElem h1,Option.getD_some,List.getElem?_eq_getElem h2,Option.getD_some]
 refine ⟨_,List.getElem?_eq_getElem h1,?_,?_⟩
 ·rw [e];exact List.getElem?_eq_getElem h2
 ·rw [e];exact h.bds _ (List.getElem_mem h1) _ (List.getElem_mem h2)
theorem A52 {β:Type} {k m:Int} {f:Int→Option β} (hk:0≤k∧k≤1000000) (hm:1≤m):(Ws k m).bind f=f (k/m):=by
 have h0:0≤k/m:=Int.ediv_nonneg hk.1 (by omega);have h1:k/m≤k:=Int.ediv_le_self _ hk.1;unfold Ws;rw [if_neg (by omega),Int.tdiv_eq_ediv_of_nonneg hk.1,ckb (by omega)]
theorem Vh {β:Type} {k m:Int} {f:Int→Option β} (hk:0≤k) (hm:1≤m):(R7 k m).bind f=f (k%m):=by
 unfold R7;rw [if_neg (by omega),Int.tmod_eq_emod_of_nonneg hk];rfl
theorem Swp.lt {s:api_Sweep} {R m:Nat} (h:Swp s R m) {k:Int} (hk:0≤k∧k<(R*m:Nat)):k≤1000000:=by have:=h.N1;omega
theorem A23 {s:api_Sweep} {R m:Nat} (h:Swp s R m) {k:Int} (hk:0≤k∧k<(R*m:Nat)) (F:Nat) {d:sift_scan} (hd:d.s=s) (p:sift_Node) :
  Ed F k (some d) p=some (Uy s p.Op p.Value_ k):=by
 obtain ⟨row,h1,h2,-⟩:=A0c h hk;obtain ⟨a,b,c,e⟩:=km h.m1.1 hk;have h3:=h.m1;have h4:=h.lt hk;unfold Ed;rw [sbd,hd,h.hm,A52 ⟨hk.1,h4⟩ (by omega),D2 (k/m).toNat row (by omega) h1,Vh hk.1 (by omega),D2 (k%m).toNat _ (by omega) h2,A52 ⟨hk.1,h4⟩ (by omega),Vh hk.1 (by omega)];unfold Uy A3;rw [h.hm];simp only [Bool.cond_eq_ite,beq_iff_eq,apply_ite some];rfl
theorem A1i {a b:Bool} {p q:Prop} [Decidable p] [Decidable q] (h1:a=true↔p) (h2:b=true↔q):Bg a b=some (tri p q):=by
 unfold Bg tri
 by_cases hp:p
 ·rw [Be (h1.2 hp),if_pos hp]
 ·rw [An (by cases a<;>simp_all),if_neg hp]
  by_cases hq:q
  ·rw [Be (h2.2 hq),if_pos hq]
  ·rw [An (by cases b<;>simp_all),if_neg hq]
theorem A6c {p q:Prop} [Decidable p] [Decidable q]:(bif decide p then decide q else false)=true↔p∧q:=by by_cases h:p<;>simp [h]
theorem orB {p q:Prop} [Decidable p] [Decidable q]:(bif decide p then true else decide q)=true↔p∨q:=by by_cases h:p<;>simp [h]
theorem A4u {op:Int} {x y:api_Span} (h:op=8∨op=10):Vm op x y=tri (x.Hi<y.Lo) (x.Lo<y.Hi):=by unfold Vm;rw [if_pos h]
theorem A4v {op:Int} {x y:api_Span} (h:op=9∨op=11):Vm op x y=tri (x.Hi≤y.Lo) (x.Lo≤y.Hi):=by
 have h1:¬(op=8∨op=10):=by omega
 unfold Vm;rw [if_neg h1,if_pos h]
theorem A5e {x y:api_Span}:Vm 12 x y=tri (mx x.Hi y.Hi=mn x.Lo y.Lo) (x.Lo≤y.Hi∧y.Lo≤x.Hi):=rfl
theorem A5f {x y:api_Span}:Vm 13 x y=tri (x.Hi<y.Lo∨y.Hi<x.Lo) (mx x.Hi y.Hi≠mn x.Lo y.Lo):=rfl
theorem Zx {p:sift_Node} {x y:api_Span} (hop:8≤p.Op∧p.Op≤13):Ch p x.Lo x.Hi y.Lo y.Hi=some (Vm p.Op x y):=by
 unfold Ch Db Dc
 by_cases h8:p.Op=8
 ·rw [Be (eqT h8),Be (eqT h8),A4u (.inl h8)];exact A1i decide_eq_true_iff decide_eq_true_iff
 rw [An (eqF h8)]
 by_cases h10:p.Op=10
 ·rw [Be (eqT h10),A4u (.inr h10)];exact A1i decide_eq_true_iff decide_eq_true_iff
 rw [An (eqF h10)]
 by_cases h9:p.Op=9
 ·rw [Be (eqT h9),Be (eqT h9),A4v (.inl h9)];exact A1i decide_eq_true_iff decide_eq_true_iff
 rw [An (eqF h9)]
 by_cases h11:p.Op=11
 ·rw [Be (eqT h11),A4v (.inr h11)];exact A1i decide_eq_true_iff decide_eq_true_iff
 rw [An (eqF h11)]
 by_cases h12:p.Op=12
 ·rw [Be (eqT h12),h12,A5e];exact A1i beq_iff_eq A6c
 have h13:p.Op=13:=by omega
 rw [An (eqF h12),Be (eqT h13),h13,A5f];exact A1i orB bne_iff_ne
theorem A3j {R m:Nat} {f g:Int→sift_val} {k:Int} (hk:0≤k∧k<(R*m:Nat)) (F:Nat) (p:sift_Node) (hop:8≤p.Op∧p.Op≤13) :
  Da F k (tab (R*m) f) (tab (R*m) g) p=some (A0r p.Op (f k) (g k)):=by
 unfold Da A0r;rw [Rl hk]
 cases hf:(f k).has
 ·rw [gdF (g:=(!false)==false&&true) rfl,sbd];simp
 ·rw [gdT (g:=(!true)==false&&true) rfl,Rl hk]
  cases hg:(g k).has
  ·simp
  ·rw [An (c:=bif !true then true else !true) rfl,Rl hk,Rl hk,if_neg (by simp)]
   by_cases h:p.Op=10∨p.Op=11
   ·rw [Be (by rcases h with h|h<;>rw [h]<;>rfl),if_pos h,Zx hop]
   ·rw [An (by rw [eqF (show p.Op≠10 by omega),eqF (show p.Op≠11 by omega)];rfl),if_neg h,Zx hop]
def bdV (n:Nat) (x:sift_val):Prop:=-((n:Int)*2147483648)≤x.span.Lo∧x.span.Lo≤(n:Int)*2147483648∧-((n:Int)*2147483648)≤x.span.Hi∧x.span.Hi≤(n:Int)*2147483648
theorem Z0 {x:Int} (h:-9000000000000000000≤x∧x≤9000000000000000000):IntKind.i64.wrap (0-x)=-x:=by
 rw [Go.Eng.wrap64 (by omega)];omega
theorem A4h {R m:Nat} {f g:Int→sift_val} {k:Int} (hk:0≤k∧k<(R*m:Nat)) (F:Nat) (p:sift_Node) {u v:Nat} (hf:bdV u (f k)) (hg:bdV v (g k)) (huv:u+v≤1000000) :
  G4 F k (tab (R*m) f) (tab (R*m) g) p=some (A1f p.Op (f k) (g k)):=by
 obtain ⟨f1,f2,f3,f4⟩:=hf;obtain ⟨g1,g2,g3,g4⟩:=hg;unfold G4 A1f Fe;rw [Rl hk]
 cases hf:(f k).has
 ·rw [gdF (g:=(!false)==false&&true) rfl,sbd];simp [noV]
 ·rw [gdT (g:=(!true)==false&&true) rfl,Rl hk]
  cases hg:(g k).has
  ·simp [noV]
  ·rw [An (c:=bif !true then true else !true) rfl,Rl hk,Rl hk,if_neg (by simp)]
   by_cases h:p.Op=27
   ·rw [Be (eqT h),if_pos h,Z0 (by omega),Z0 (by omega),ckb (by omega),ckb (by omega),Int.sub_eq_add_neg,Int.sub_eq_add_neg]
   ·rw [An (eqF h),if_neg h,ckb (by omega),ckb (by omega)]
theorem A1b {p:sift_Node} {f:Int→Int} (l:List Int) (x:Int):l.foldl (fun (s:Int×Nat) o=>if p.Op=6 then (mn s.1 (f o),0) else (mx s.1 (f o),0)) (x,0)=(if p.Op=6 then l.foldl (fun a o=>mn a (f o)) x else l.foldl (fun a o=>mx a (f o)) x,0):=by
 induction l generalizing x with
 | nil=>simp
 | cons o l ih =>
  simp only [List.foldl_cons]
  by_cases h:p.Op=6
  ·simp only [if_pos h] at ih ⊢;exact ih _
  ·simp only [if_neg h] at ih ⊢;exact ih _
theorem A3z {s:api_Sweep} {R m:Nat} (h:Swp s R m) {k:Int} (hk:0≤k∧k<(R*m:Nat)) {F:Nat} (hF:1002≤F) {d:sift_scan} (hd:d.s=s) (p:sift_Node) (hop:p.Op=6∨p.Op=7) (hr:0≤p.Rays∧p.Rays≤3) (hg:0≤p.Gates∧p.Gates≤3) (f:Int→Int) :
  F6 F k p (some d) (tab (R*m) f)=some (Xa p.Op (nbs s.Rays.length s.Site.Gates k p.Rays p.Gates) f):=by
 have key:∀x,Dd F k p (some d) (tab (R*m) f) x=some (if p.Op=6 then (nbs R m k p.Rays p.Gates).foldl (fun a o=>mn a (f o)) x else (nbs R m k p.Rays p.Gates).foldl (fun a o=>mx a (f o)) x):=by
  intro x;unfold Dd;have:=h.R4;have:=h.m1;rw [X0 (R:=(R:Int)) (m:=(m:Int)) (P:=fun _ _=>True) (f:=fun (s:Int×Nat) o=>if p.Op=6 then (mn s.1 (f o),0) else (mx s.1 (f o),0)) (by rw [hd,h.hR]) (by rw [hd,h.hm]) (by omega) (by omega) ⟨hk.1,by rw [←Int.natCast_mul];exact hk.2⟩ hr hg ?_ hF trivial,sbd,A1b]
  ·rfl
  ·intro s o c _ h1 h2 _;rw [←Int.natCast_mul] at h2;refine ⟨?_,trivial⟩;unfold H0;rcases hop with e|e
   ·rw [Be (eqT e),Rl ⟨h1,h2⟩];simp only [if_pos e];rfl
   ·have n6:p.Op≠6:=by omega
    rw [An (eqF n6),Rl ⟨h1,h2⟩];simp only [if_neg n6];rfl
 unfold F6 Xa;rw [h.hR,h.hm];rcases hop with e|e
 ·rw [An (eqF (by omega)),key];simp only [if_pos e]
 ·have n6:p.Op≠6:=by omega
  rw [Be (eqT e),key];simp only [if_neg n6]
theorem A1w {f:Int→Int} (l:List Int) (x y:Int):l.foldl (fun (s:Int×Int×Nat) o=>(if f o=1 then s.1+1 else s.1,if f o≠3 then s.2.1+1 else s.2.1,0)) (x,y,0)=(x+l.countP (fun o=>f o==1),y+l.countP (fun o=>f o != 3),0):=by
 induction l generalizing x y with
 | nil=>simp
 | cons o l ih =>
  simp only [List.foldl_cons,List.countP_cons];rw [ih]
  by_cases h1:f o=1<;>by_cases h2:f o=3<;>simp [h1,h2]<;>omega
theorem A1x {s:api_Sweep} {R m:Nat} (h:Swp s R m) {k:Int} (hk:0≤k∧k<(R*m:Nat)) {F:Nat} (hF:1002≤F) {d:sift_scan} (hd:d.s=s) (p:sift_Node) (hr:0≤p.Rays∧p.Rays≤3) (hg:0≤p.Gates∧p.Gates≤3) (f:Int→Int) :
  Eb F k (some d) p (tab (R*m) f)=some (Ur (nbs s.Rays.length s.Site.Gates k p.Rays p.Gates) f):=by
 unfold Eb;have:=h.R4;have:=h.m1;rw [X0 (R:=(R:Int)) (m:=(m:Int)) (P:=fun (s:Int×Int×Nat) c=>0≤s.1∧s.1≤c∧0≤s.2.1∧s.2.1≤c) (f:=fun (s:Int×Int×Nat) o=>(if f o=1 then s.1+1 else s.1,if f o≠3 then s.2.1+1 else s.2.1,0)) (by rw [hd,h.hR]) (by rw [hd,h.hm]) (by omega) (by omega) ⟨hk.1,by rw [←Int.natCast_mul];exact hk.2⟩ hr hg ?_ hF (by simp),sbd,A1w]
 ·rw [Be rfl];unfold Ur;rw [h.hR,h.hm];simp
 ·intro s o c hP h1 h2 hc;obtain ⟨p1,p2,p3,p4⟩:=hP;rw [←Int.natCast_mul] at h2;refine ⟨?_,?_⟩
  ·have k2:∀x,Cy (tab (R*m) f) s o x=some ((x,if f o≠3 then s.2.1+1 else s.2.1,0),true):=by
    intro x;unfold Cy;rw [Rl ⟨h1,h2⟩]
    by_cases e:f o=3
    ·rw [An (neF e),if_neg (by simp [e])]
    ·rw [Be (neT e),ckb (by omega),if_pos e]
   unfold Gn;rw [Rl ⟨h1,h2⟩]
   by_cases e:f o=1
   ·rw [Be (eqT e),ckb (by omega),k2,if_pos e]
   ·rw [An (eqF e),k2,if_neg e]
  ·dsimp only;refine ⟨?_,?_,?_,?_⟩<;>split<;>omega
end Go.Proofs.YtkjnafecmjakcaaGreatDoor
namespace Go.Proofs.YtkjnafecmjakcaaGreatDoor
open Go Go.RowKit Go.Eng
set_option maxRecDepth 10000
set_option linter.unusedVariables false
set_option linter.unusedSimpArgs false
theorem A06 {α:Type} {P:α→Prop} {f:α→Int→α} (hf:∀a o,P a→P (f a o)):∀(l:List Int) (x:α),P x→P (l.foldl f x):=by
 intro l
 induction l with
 | nil=>intro x h;exact h
 | cons o l ih=>intro x h;exact ih _ (hf _ _ h)
theorem Zr {a b:Prop} [Decidable a] [Decidable b]:1≤tri a b∧tri a b≤3:=by unfold tri;split<;>(try split)<;>omega
theorem A3i {op:Int} {x y:api_Span}:1≤Vm op x y∧Vm op x y≤3:=by
 unfold Vm
 split
 ·exact Zr
 ·split
  ·exact Zr
  ·split<;>exact Zr
theorem A4c (s:api_Sweep):∀(t:T),okT true t→∀k,1≤(t.sem s k).1∧(t.sem s k).1≤3:=by
 intro t
 induction t with
 | leaf op v=>intro h k;simp only [T.sem];split<;>omega
 | un op r g a ih =>
  intro h k;simp only [okT] at h;have ih:=ih h.2;simp only [T.sem]
  split
  ·have:=ih k;omega
  ·unfold Xa
   split
   ·exact A06 (P:=fun x=>1≤x∧x≤3) (fun a o ha=>by have:=ih o;unfold mn;split<;>omega) _ _ (by omega)
   ·exact A06 (P:=fun x=>1≤x∧x≤3) (fun a o ha=>by have:=ih o;unfold mx;split<;>omega) _ _ (by omega)
 | bin op a b iha ihb =>
  intro h k;simp only [okT] at h;simp only [T.sem];rcases h with h|h
  ·have:=iha h.2.1 k;have:=ihb h.2.2 k
   split
   ·unfold mx;split<;>omega
   ·rw [if_pos (by omega)];unfold mn;split<;>omega
  ·rw [if_neg (by omega),if_neg (by omega)];unfold A0r
   split
   ·omega
   ·split<;>exact A3i
theorem Ng {f:Int→List Int} {c:Nat} (hf:∀x,(f x).length≤c):∀l:List Int,(l.flatMap f).length≤l.length*c:=by
 intro l
 induction l with
 | nil=>simp
 | cons x l ih =>
  rw [List.flatMap_cons,List.length_append,List.length_cons,Nat.add_mul];have:=hf x;omega
theorem A3y {R m k r g:Int} (hR:1≤R∧R≤500) (hm:1≤m∧m≤1000) (hr:0≤r∧r≤3):(nbs R m k r g).length≤1000000:=by
 have h1:∀b,(nb1 R m k g b).length≤1000:=by
  intro b;unfold nb1;refine Nat.le_trans (List.length_filter_le _ _) ?_;rw [List.length_map];unfold irg;rw [List.length_map,List.length_range]
  split<;>split<;>omega
 unfold nbs;refine Nat.le_trans (Ng h1 _) ?_;have:(if k/m+r-(k/m-r)≥R then irg 0 (R-1) else irg (k/m-r) (k/m+r)).length≤1000:=by
  unfold irg
  split<;>rw [List.length_map,List.length_range]<;>omega
 omega
theorem Up {x:Int} (h:-2147483648≤x∧x≤2147483648):bdV 1 (pt x):=by unfold bdV pt;dsimp only;omega
theorem Z4 {n:Nat}:bdV n noV:=by unfold bdV noV;dsimp only;omega
theorem Vv {x:api_Span} {b:Bool} (h:bdS x):bdV 1 ⟨x,b⟩:=by unfold bdV;unfold bdS at h;dsimp only;omega
theorem Lm {n:Nat} {c:Prop} [Decidable c] {x y:sift_val} (h1:c→bdV n x) (h2:¬c→bdV n y):bdV n (if c then x else y):=by
 by_cases h:c
 ·rw [if_pos h];exact h1 h
 ·rw [if_neg h];exact h2 h
theorem A2y {s:api_Sweep} {R m:Nat} (h:Swp s R m):∀(t:T),okT false t→∀k:Int,0≤k∧k<(R*m:Nat)→bdV t.size (t.sem s k).2:=by
 intro t
 induction t with
 | leaf op v =>
  intro ho k hk;obtain ⟨row,-,-,e⟩:=A0c h hk;obtain ⟨e1,e2,e3,e4,e5,e6,e7,e8,e9,e10⟩:=e;obtain ⟨a,b,c,d⟩:=km h.m1.1 hk;have:=h.R4;have:=h.m1;have:=h.tilt;simp only [okT] at ho;simp only [T.sem,T.size,Uy];rw [h.hm];exact Lm (fun _=>Up (by omega)) fun _=>Lm (fun _=>Up (by omega)) fun _=>Lm (fun _=>Up (by omega)) fun _=>Lm (fun _=>Up (by omega)) fun _=>Lm (fun _=>Up (by omega)) fun _=>Lm (fun _=>Vv e1) fun _=>Lm (fun _=>Z4) fun _=>Lm (fun _=>Vv e2) fun _=>Lm (fun _=>Vv e3) fun _=>Lm (fun _=>Up (by omega)) fun _=>Lm (fun _=>Z4) fun _=>Lm (fun _=>Vv e4) fun _=>Vv e5
 | un op r g a ih =>
  intro ho k hk;simp only [okT] at ho;simp only [T.sem,T.size,Ur];have:=h.R4;have:=h.m1;have h1:=A3y (R:=s.Rays.length) (m:=s.Site.Gates) (k:=k) (r:=r) (g:=g) (by rw [h.hR];omega) (by rw [h.hm];omega) (by omega);have h2:=List.countP_le_length (p:=fun o=>(a.sem s o).1==1) (l:=nbs s.Rays.length s.Site.Gates k r g);have h3:=List.countP_le_length (p:=fun o=>(a.sem s o).1 != 3) (l:=nbs s.Rays.length s.Site.Gates k r g);have:=a.size_pos;unfold bdV;dsimp only;omega
 | bin op a b iha ihb =>
  intro ho k hk;simp only [okT] at ho;have h1:=iha ho.2.1 k hk;have h2:=ihb ho.2.2.1 k hk;simp only [T.sem,T.size,A1f]
  split
  ·exact Z4
  ·unfold bdV at *
   split<;>dsimp only<;>omega
section
variable {κ ν:Type} [DecidableEq κ]
theorem A4y (B:List (κ×ν)) (x y:κ) (v:ν):lkM (upM B x v) y=if y=x then some v else lkM B y:=by
 induction B with
 | nil=>unfold upM lkM;split<;>rfl
 | cons p B ih =>
  unfold upM
  by_cases hx:x=p.1
  ·rw [if_pos hx];unfold lkM
   by_cases hy:y=x
   ·simp [hy]
   ·simp only [if_neg hy];rw [if_neg (by rw [←hx];exact hy)]
  ·rw [if_neg hx];unfold lkM
   by_cases hy:y=p.1
   ·rw [if_pos hy,if_pos hy,if_neg (fun e=>hx (by rw [←e,hy]))]
   ·rw [if_neg hy,if_neg hy,ih]
end
structure Inv (s:api_Sweep) (N:Nat) (d:sift_scan):Prop where
 hs:d.s=s
 hn:d.n=(N:Int)
 ht:∀t l,okT true t→lkM d.tests (tb (textT t))=some l→l=tab N fun k=>(t.sem s k).1
 hv:∀t l,okT false t→lkM d.values (tb (textT t))=some l→l=tab N fun k=>(t.sem s k).2
section
variable {s:api_Sweep} {R m N:Nat} {d d':sift_scan}
theorem Inv.eta (h:Inv s N d) (h':Inv s N d'):sift_scan.mk d.s d.n d'.tests d'.values=d':=by
 cases d;cases d'
 have e1:=h.hs;have e2:=h.hn;have e3:=h'.hs;have e4:=h'.hn;simp only at e1 e2 e3 e4 ⊢;rw [e1,e2,e3,e4]
theorem Inv.upT (h:Inv s N d) {t:T} (ht:okT true t):Inv s N ⟨d.s,d.n,upM d.tests (tb (textT t)) (tab N fun k=>(t.sem s k).1),d.values⟩:=by
 refine ⟨h.hs,h.hn,fun t' l h1 h2=>?_,h.hv⟩;rw [A4y] at h2
 by_cases e:tb (textT t')=tb (textT t)
 ·rw [if_pos e] at h2
  cases Yw h1 ht (A34 e)
  cases h2;rfl
 ·rw [if_neg e] at h2;exact h.ht t' l h1 h2
theorem Inv.upV (h:Inv s N d) {t:T} (ht:okT false t):Inv s N ⟨d.s,d.n,d.tests,upM d.values (tb (textT t)) (tab N fun k=>(t.sem s k).2)⟩:=by
 refine ⟨h.hs,h.hn,h.ht,fun t' l h1 h2=>?_⟩;rw [A4y] at h2
 by_cases e:tb (textT t')=tb (textT t)
 ·rw [if_pos e] at h2
  cases Yw h1 ht (A34 e)
  cases h2;rfl
 ·rw [if_neg e] at h2;exact h.hv t' l h1 h2
theorem A37 {p:sift_Node} {F:Nat} (hd:Inv s N d) (hN:N≤1000) (hF:2000≤F) (hop:p.Op=1∨p.Op=2):Ee F (some d) p=some (tab N fun _=>if p.Op=1 then 1 else 3):=by
 unfold Ee Hb;rw [sbd,Pr (L:=Dv F p) (f:=fun i=>Ef F i p) (fun _ _ _ _=>rfl) ?_ (by omega) (by omega) hd.hn (by omega)]
 ·rfl
 ·intro i _ _;show Ef F i p=_;unfold Ef;rcases hop with e|e
  ·rw [D2 1 1 (by rw [e];rfl) rfl,if_pos e]
  ·rw [D2 2 3 (by rw [e];rfl) rfl,if_neg (by omega)]
theorem A5s {S:Af} {V:Ad} {p u:sift_Node} {F:Nat} {f:Int→Int} (hd:Inv s N d) (hN:N≤1000) (hF:2000≤F) (ha:p.Args=[u]) (hS:S d u=some (tab N f,d')) (hd':Inv s N d') (hf:∀k,1≤f k∧f k≤3) :
  Hk F S V d p=some (tab N fun k=>4-f k,d'):=by
 unfold Hk Hc;rw [ha,Wm,hS,sbd];dsimp only;rw [Pr (L:=Dw F (tab N f)) (f:=fun i=>G3 F i (tab N f)) (g:=fun k=>4-f k) (fun _ _ _ _=>rfl) ?_ (by omega) (by omega) hd.hn (by omega),sbd,hd.eta hd'];intro i h1 h2;show G3 F i _=_;unfold G3;have:=hf i;rw [Rl ⟨h1,h2⟩,ckb (by omega)]
theorem A3e {S:Af} {V:Ad} {p u v:sift_Node} {F:Nat} {f g:Int→Int} {d1:sift_scan} (hd:Inv s N d) (hN:N≤1000) (hF:2000≤F) (ha:p.Args=[u,v]) (hS:S d u=some (tab N f,d1)) (hd1:Inv s N d1) (hS2:S d1 v=some (tab N g,d')) (hd':Inv s N d') :
  F7 F S V d p=some (tab N fun k=>if p.Op=4 then mx (f k) (g k) else mn (f k) (g k),d'):=by
 unfold F7 He;rw [ha,Wm,A3r,hS,sbd];dsimp only;rw [hd.eta hd1,hS2,sbd];dsimp only;rw [Pr (L:=Dx F p (tab N f) (tab N g)) (f:=fun i=>F5 F i p (tab N f) (tab N g)) (g:=fun k=>if p.Op=4 then mx (f k) (g k) else mn (f k) (g k)) (fun _ _ _ _=>rfl) ?_ (by omega) (by omega) hd.hn (by omega),sbd,hd.eta hd'];intro i h1 h2;show F5 F i p _ _=_;unfold F5
 by_cases e:p.Op=4
 ·rw [Be (eqT e),Rl ⟨h1,h2⟩,Rl ⟨h1,h2⟩];simp only [if_pos e];rfl
 ·rw [An (eqF e),Rl ⟨h1,h2⟩,Rl ⟨h1,h2⟩];simp only [if_neg e];rfl
theorem A2g {S:Af} {V:Ad} {p u:sift_Node} {F:Nat} {f:Int→Int} (h:Swp s R m) (hd:Inv s (R*m) d) (hF:2000≤F) (ha:p.Args=[u]) (hop:p.Op=6∨p.Op=7) (hr:0≤p.Rays∧p.Rays≤3) (hg:0≤p.Gates∧p.Gates≤3) (hS:S d u=some (tab (R*m) f,d')) (hd':Inv s (R*m) d') :
  F8 F S V d p=some (tab (R*m) fun k=>Xa p.Op (nbs s.Rays.length s.Site.Gates k p.Rays p.Gates) f,d'):=by
 have hN:=h.N1;unfold F8 Hf;rw [ha,Wm,hS,sbd];dsimp only;rw [hd.eta hd',Pr (L:=Dy F p (some d') (tab (R*m) f)) (f:=fun i=>F6 F i p (some d') (tab (R*m) f)) (g:=fun k=>Xa p.Op (nbs s.Rays.length s.Site.Gates k p.Rays p.Gates) f) (fun _ _ _ _=>rfl) (fun i h1 h2=>A3z h ⟨h1,h2⟩ (by omega) hd'.hs p hop hr hg f) (by omega) (by omega) hd.hn (by omega),sbd]
theorem A3h {S:Af} {V:Ad} {p u v:sift_Node} {F:Nat} {f g:Int→sift_val} {d1:sift_scan} (h:Swp s R m) (hd:Inv s (R*m) d) (hF:2000≤F) (ha:p.Args=[u,v]) (hop:8≤p.Op∧p.Op≤13) (hS:V d u=some (tab (R*m) f,d1)) (hd1:Inv s (R*m) d1) (hS2:V d1 v=some (tab (R*m) g,d')) (hd':Inv s (R*m) d') :
  Bo F S V d p=some (tab (R*m) fun k=>A0r p.Op (f k) (g k),d'):=by
 have hN:=h.N1;unfold Bo Hg;rw [ha,Wm,A3r,hS,sbd];dsimp only;rw [hd.eta hd1,hS2,sbd];dsimp only;rw [Pr (L:=Dz F (tab (R*m) f) (tab (R*m) g) p) (f:=fun i=>Da F i (tab (R*m) f) (tab (R*m) g) p) (g:=fun k=>A0r p.Op (f k) (g k)) (fun _ _ _ _=>rfl) (fun i h1 h2=>A3j ⟨h1,h2⟩ F p hop) (by omega) (by omega) hd.hn (by omega),sbd,hd.eta hd']
theorem A0w {p:sift_Node} {F:Nat} (h:Swp s R m) (hd:Inv s (R*m) d) (hF:2000≤F):Ec F (some d) p=some (tab (R*m) fun k=>Uy s p.Op p.Value_ k):=by
 have hN:=h.N1;unfold Ec Ek;rw [sbd,Pr (L:=Ce F (some (sift_scan.mk d.s d.n [] [])) p) (f:=fun i=>Ed F i (some (sift_scan.mk d.s d.n [] [])) p) (g:=fun k=>Uy s p.Op p.Value_ k) (fun _ _ _ _=>rfl) (fun i h1 h2=>A23 h ⟨h1,h2⟩ F hd.hs p) (by omega) (by omega) hd.hn (by omega),sbd]
theorem A0s {S:Af} {V:Ad} {p u:sift_Node} {F:Nat} {f:Int→Int} (h:Swp s R m) (hd:Inv s (R*m) d) (hF:2000≤F) (ha:p.Args=[u]) (hr:0≤p.Rays∧p.Rays≤3) (hg:0≤p.Gates∧p.Gates≤3) (hS:S d u=some (tab (R*m) f,d')) (hd':Inv s (R*m) d') :
  G2 F S V d p=some (tab (R*m) fun k=>Ur (nbs s.Rays.length s.Site.Gates k p.Rays p.Gates) f,d'):=by
 have hN:=h.N1;unfold G2 El;rw [ha,Wm,hS,sbd];dsimp only;rw [hd.eta hd',Pr (L:=Cf F (some d') p (tab (R*m) f)) (f:=fun i=>Eb F i (some d') p (tab (R*m) f)) (g:=fun k=>Ur (nbs s.Rays.length s.Site.Gates k p.Rays p.Gates) f) (fun _ _ _ _=>rfl) (fun i h1 h2=>A1x h ⟨h1,h2⟩ (by omega) hd'.hs p hr hg f) (by omega) (by omega) hd.hn (by omega),sbd]
theorem A4g {S:Af} {V:Ad} {p u v:sift_Node} {F:Nat} {f g:Int→sift_val} {d1:sift_scan} {a b:Nat} (h:Swp s R m) (hd:Inv s (R*m) d) (hF:2000≤F) (ha:p.Args=[u,v]) (hS:V d u=some (tab (R*m) f,d1)) (hd1:Inv s (R*m) d1) (hS2:V d1 v=some (tab (R*m) g,d')) (hd':Inv s (R*m) d')
  (hf:∀k:Int,0≤k∧k<(R*m:Nat)→bdV a (f k)) (hg:∀k:Int,0≤k∧k<(R*m:Nat)→bdV b (g k)) (hab:a+b≤1000000):Gj F S V d p=some (tab (R*m) fun k=>A1f p.Op (f k) (g k),d'):=by
 have hN:=h.N1;unfold Gj Em;rw [ha,Wm,A3r,hS,sbd];dsimp only;rw [hd.eta hd1,hS2,sbd];dsimp only;rw [Pr (L:=Cg F (tab (R*m) f) (tab (R*m) g) p) (f:=fun i=>G4 F i (tab (R*m) f) (tab (R*m) g) p) (g:=fun k=>A1f p.Op (f k) (g k)) (fun _ _ _ _=>rfl) (fun i h1 h2=>A4h ⟨h1,h2⟩ F p (hf i ⟨h1,h2⟩) (hg i ⟨h1,h2⟩) hab) (by omega) (by omega) hd.hn (by omega),sbd,hd.eta hd']
end
end Go.Proofs.YtkjnafecmjakcaaGreatDoor
namespace Go.Proofs.YtkjnafecmjakcaaGreatDoor
open Go Go.RowKit Go.Eng
set_option maxRecDepth 10000
set_option linter.unusedVariables false
set_option linter.unusedSimpArgs false
section
variable {F:Nat} {S:Af} {V:Ad} {d:sift_scan} {p:sift_Node} {key:ByteArray}
theorem Wj (h1:Cj F p=some key) {l:List Int} (h2:lkM d.tests key=some l):B3 F S V d p=some (l,d):=by
 unfold B3;rw [h1,sbd,Be (by rw [h2];rfl),h2];rfl
theorem V8 (h1:Cj F p=some key) {l:List sift_val} (h2:lkM d.values key=some l):Bj F S V d p=some (l,d):=by
 unfold Bj;rw [h1,sbd,Be (by rw [h2];rfl),h2];rfl
theorem Zp (h1:Cj F p=some key) (h2:lkM d.tests key=none) (hop:p.Op=1∨p.Op=2) {l:List Int} (h:Ee F (some d) p=some l) :
  B3 F S V d p=some (l,⟨d.s,d.n,upM d.tests key l,d.values⟩):=by
 unfold B3;rw [h1,sbd,An (by rw [h2];rfl),h,sbd];rcases hop with e|e<;>simp only [e]<;>rfl
theorem A36 (h1:Cj F p=some key) (h2:lkM d.tests key=none) (hop:p.Op=3) {l:List Int} {d':sift_scan} (h:Hk F S V d p=some (l,d')) :
  B3 F S V d p=some (l,⟨d.s,d.n,upM d'.tests key l,d'.values⟩):=by
 unfold B3;rw [h1,sbd,An (by rw [h2];rfl),h,sbd];simp only [hop];rfl
theorem A1g (h1:Cj F p=some key) (h2:lkM d.tests key=none) (hop:p.Op=4∨p.Op=5) {l:List Int} {d':sift_scan} (h:F7 F S V d p=some (l,d')) :
  B3 F S V d p=some (l,⟨d.s,d.n,upM d'.tests key l,d'.values⟩):=by
 unfold B3;rw [h1,sbd,An (by rw [h2];rfl),h,sbd];rcases hop with e|e<;>simp only [e]<;>rfl
theorem A1h (h1:Cj F p=some key) (h2:lkM d.tests key=none) (hop:p.Op=6∨p.Op=7) {l:List Int} {d':sift_scan} (h:F8 F S V d p=some (l,d')) :
  B3 F S V d p=some (l,⟨d.s,d.n,upM d'.tests key l,d'.values⟩):=by
 unfold B3;rw [h1,sbd,An (by rw [h2];rfl),h,sbd];rcases hop with e|e<;>simp only [e]<;>rfl
theorem A35 (h1:Cj F p=some key) (h2:lkM d.tests key=none) (hop:8≤p.Op∧p.Op≤13) {l:List Int} {d':sift_scan} (h:Bo F S V d p=some (l,d')) :
  B3 F S V d p=some (l,⟨d.s,d.n,upM d'.tests key l,d'.values⟩):=by
 have hop:p.Op=8∨p.Op=9∨p.Op=10∨p.Op=11∨p.Op=12∨p.Op=13:=by omega
 unfold B3;rw [h1,sbd,An (by rw [h2];rfl),h,sbd];rcases hop with e|e|e|e|e|e<;>simp only [e]<;>rfl
theorem Yy (h1:Cj F p=some key) (h2:lkM d.values key=none) (hop:p.Op=25) {l:List sift_val} {d':sift_scan} (h:G2 F S V d p=some (l,d')) :
  Bj F S V d p=some (l,⟨d.s,d.n,d'.tests,upM d'.values key l⟩):=by
 unfold Bj;rw [h1,sbd,An (by rw [h2];rfl),h,sbd,Be (eqT hop)]
theorem A1j (h1:Cj F p=some key) (h2:lkM d.values key=none) (hop:p.Op=26∨p.Op=27) {l:List sift_val} {d':sift_scan} (h:Gj F S V d p=some (l,d')) :
  Bj F S V d p=some (l,⟨d.s,d.n,d'.tests,upM d'.values key l⟩):=by
 unfold Bj;rw [h1,sbd,An (by rw [h2];rfl),h,sbd];rcases hop with e|e
 ·rw [An (eqF (by omega)),Be (eqT e),Be (eqT e)]
 ·rw [An (eqF (by omega)),An (eqF (by omega)),Be (eqT e)]
theorem Yz (h1:Cj F p=some key) (h2:lkM d.values key=none) (hop:p.Op<25) {l:List sift_val} (h:Ec F (some d) p=some l) :
  Bj F S V d p=some (l,⟨d.s,d.n,d.tests,upM d.values key l⟩):=by
 unfold Bj;rw [h1,sbd,An (by rw [h2];rfl),h,sbd,An (eqF (by omega)),An (eqF (by omega)),An (eqF (by omega))]
end
theorem Zo (F:Nat):Cz (F+1)=B3 F (Cz F) (Kw F):=rfl
theorem Xy (F:Nat):Kw (F+1)=Bj F (Cz F) (Kw F):=rfl
theorem A0d {s:api_Sweep} {R m:Nat} (h:Swp s R m):∀(t:T) (F:Nat) (d:sift_scan),t.size+2500≤F→t.size≤1000→Inv s (R*m) d →
  (okT true t→∃d',Cz F d t.node=some (tab (R*m) fun k=>(t.sem s k).1,d')∧Inv s (R*m) d') ∧
  (okT false t→∃d',Kw F d t.node=some (tab (R*m) fun k=>(t.sem s k).2,d')∧Inv s (R*m) d'):=by
 have hN:=h.N1;intro t
 induction t with
 | leaf op v =>
  intro F d hF hs hd;obtain ⟨F,rfl⟩:∃G,F=G+1:=⟨F-1,by omega⟩;simp only [T.size] at hF hs;rw [Zo,Xy];constructor
  ·intro ht;have hx:=T1 _ true F ht (by simp only [T.size];omega) (by simp only [T.size];omega)
   cases hl:lkM d.tests (tb (textT (.leaf op v))) with
   | some l=>exact ⟨d,by rw [Wj hx hl,hd.ht _ l ht hl],hd⟩
   | none =>
    have hop:op=1∨op=2:=by simp only [okT] at ht;omega
    exact ⟨_,Zp hx hl hop (A37 hd hN (by omega) hop),hd.upT ht⟩
  ·intro ht;have hx:=T1 _ false F ht (by simp only [T.size];omega) (by simp only [T.size];omega)
   cases hl:lkM d.values (tb (textT (.leaf op v))) with
   | some l=>exact ⟨d,by rw [V8 hx hl,hd.hv _ l ht hl],hd⟩
   | none =>
    have hop:op<25:=by simp only [okT] at ht;omega
    exact ⟨_,Yz hx hl hop (A0w h hd (by omega)),hd.upV ht⟩
 | un op r g a ih =>
  intro F d hF hs hd;obtain ⟨F,rfl⟩:∃G,F=G+1:=⟨F-1,by omega⟩;simp only [T.size] at hF hs;rw [Zo,Xy];constructor
  ·intro ht;have hx:=T1 _ true F ht (by simp only [T.size];omega) (by simp only [T.size];omega)
   cases hl:lkM d.tests (tb (textT (.un op r g a))) with
   | some l=>exact ⟨d,by rw [Wj hx hl,hd.ht _ l ht hl],hd⟩
   | none =>
    have ho:=ht;simp only [okT] at ho;obtain ⟨d',h1,h2⟩:=(ih F d (by omega) (by omega) hd).1 ho.2;rcases ho.1 with o|o
    ·refine ⟨_,(A36 hx hl o.1 (A5s hd hN (by omega) rfl h1 h2 (A4c s a ho.2))).trans ?_,h2.upT ht⟩;simp only [T.sem,if_pos o.1,hd.hs,hd.hn,h2.hs,h2.hn]
    ·refine ⟨_,(A1h hx hl o.1 (A2g h hd (by omega) rfl o.1 ⟨o.2.1,o.2.2.1⟩ o.2.2.2 h1 h2)).trans ?_,h2.upT ht⟩;simp only [T.sem,if_neg (show op≠3 by omega),hd.hs,hd.hn,h2.hs,h2.hn];rfl
  ·intro ht;have hx:=T1 _ false F ht (by simp only [T.size];omega) (by simp only [T.size];omega)
   cases hl:lkM d.values (tb (textT (.un op r g a))) with
   | some l=>exact ⟨d,by rw [V8 hx hl,hd.hv _ l ht hl],hd⟩
   | none =>
    have ho:=ht;simp only [okT] at ho;obtain ⟨d',h1,h2⟩:=(ih F d (by omega) (by omega) hd).1 ho.2;refine ⟨_,(Yy hx hl ho.1.1 (A0s h hd (by omega) rfl ⟨ho.1.2.1,ho.1.2.2.1⟩ ⟨ho.1.2.2.2.1,ho.1.2.2.2.2⟩ h1 h2)).trans ?_,h2.upV ht⟩;simp only [T.sem,hd.hs,hd.hn,h2.hs,h2.hn];rfl
 | bin op a b iha ihb =>
  intro F d hF hs hd;obtain ⟨F,rfl⟩:∃G,F=G+1:=⟨F-1,by omega⟩;simp only [T.size] at hF hs;rw [Zo,Xy];constructor
  ·intro ht;have hx:=T1 _ true F ht (by simp only [T.size];omega) (by simp only [T.size];omega)
   cases hl:lkM d.tests (tb (textT (.bin op a b))) with
   | some l=>exact ⟨d,by rw [Wj hx hl,hd.ht _ l ht hl],hd⟩
   | none =>
    have ho:=ht;simp only [okT] at ho;rcases ho with o|o
    ·obtain ⟨d1,h1,h2⟩:=(iha F d (by omega) (by omega) hd).1 o.2.1;obtain ⟨d2,h3,h4⟩:=(ihb F d1 (by omega) (by omega) h2).1 o.2.2;refine ⟨_,(A1g hx hl o.1 (A3e hd hN (by omega) rfl h1 h2 h3 h4)).trans ?_,h4.upT ht⟩;have e:(fun k=>if (T.bin op a b).node.Op=4 then mx (a.sem s k).1 (b.sem s k).1 else mn (a.sem s k).1 (b.sem s k).1)=fun k=>((T.bin op a b).sem s k).1:=by
      funext k
      simp only [T.sem,T.node]
      by_cases h4:op=4
      ·simp only [if_pos h4];exact if_pos h4
      ·simp only [if_neg h4,if_pos (show op=5 by omega)];exact if_neg h4
     rw [e,hd.hs,hd.hn,h4.hs,h4.hn]
    ·obtain ⟨d1,h1,h2⟩:=(iha F d (by omega) (by omega) hd).2 o.2.2.1;obtain ⟨d2,h3,h4⟩:=(ihb F d1 (by omega) (by omega) h2).2 o.2.2.2;refine ⟨_,(A35 hx hl ⟨o.1,o.2.1⟩ (A3h h hd (by omega) rfl ⟨o.1,o.2.1⟩ h1 h2 h3 h4)).trans ?_,h4.upT ht⟩;simp only [T.sem,if_neg (show op≠4 by omega),if_neg (show op≠5 by omega),hd.hs,hd.hn,h4.hs,h4.hn];rfl
  ·intro ht;have hx:=T1 _ false F ht (by simp only [T.size];omega) (by simp only [T.size];omega)
   cases hl:lkM d.values (tb (textT (.bin op a b))) with
   | some l=>exact ⟨d,by rw [V8 hx hl,hd.hv _ l ht hl],hd⟩
   | none =>
    have ho:=ht;simp only [okT] at ho;obtain ⟨d1,h1,h2⟩:=(iha F d (by omega) (by omega) hd).2 ho.2.1;obtain ⟨d2,h3,h4⟩:=(ihb F d1 (by omega) (by omega) h2).2 ho.2.2.1;refine ⟨_,(A1j hx hl ho.1 (A4g h hd (by omega) rfl h1 h2 h3 h4 (A2y h a ho.2.1) (A2y h b ho.2.2.1) (by omega))).trans ?_,h4.upV ht⟩;simp only [T.sem,hd.hs,hd.hn,h4.hs,h4.hn];rfl
end Go.Proofs.YtkjnafecmjakcaaGreatDoor
namespace Go.Proofs.YtkjnafecmjakcaaGreatDoor
open Go Go.RowKit Go.Eng
set_option maxRecDepth 10000
set_option linter.unusedVariables false
set_option linter.unusedSimpArgs false
def rlN (p:ByteArray×T):sift_Rule:=⟨p.1,p.2.node⟩
def rl (L:List (ByteArray×T)):List sift_Rule:=L.map rlN
theorem Pi (L:List (ByteArray×T)):(rl L).length=L.length:=by simp [rl]
theorem Wd {L:List (ByteArray×T)} {i:Nat} {p:ByteArray×T} (h:L[i]? = some p):(rl L)[i]? = some (rlN p):=by simp [rl,h]
structure GoodR (L:List (ByteArray×T)):Prop where
 len:L.length≤32
 size:(L.map (·.2.size)).sum≤300
 names:∀p∈L,∀F,30≤F→beam_Name F p.1=some true∧sift_word F p.1=some false
 distinct:∀(i j:Nat) (p q:ByteArray×T),L[i]? = some p→L[j]? = some q→i<j→p.1≠q.1
 trees:∀p∈L,okT true p.2∧p.2.depth≤12
theorem A33 {L:List (ByteArray×T)} {i:Nat} {p:ByteArray×T} (h:L[i]? = some p):((L.drop i).map (·.2.size)).sum=p.2.size+((L.drop (i+1)).map (·.2.size)).sum:=by
 obtain ⟨h1,h2⟩:=List.getElem?_eq_some_iff.1 h;rw [List.drop_eq_getElem_cons h1,List.map_cons,List.sum_cons,h2]
theorem Xx {L:List (ByteArray×T)} {p:ByteArray×T} (h:p∈L):p.2.size≤(L.map (·.2.size)).sum:=by
 induction L with
 | nil=>cases h
 | cons q L ih =>
  rw [List.map_cons,List.sum_cons];rcases List.mem_cons.1 h with rfl|h
  ·omega
  ·have:=ih h;omega
theorem A0q {l:List sift_Rule} {r:sift_Rule} (hl:l.length≤40) (h:∀(i:Nat) (x:sift_Rule),l[i]? = some x→sEq x.Name r.Name=false):∀(F j:Nat),l.length+1≤F+j→j≤l.length→Au l r F j=some (-1):=by
 intro F
 induction F with
 | zero=>intro j h1 h2;omega
 | succ F ih =>
  intro j h1 h2;show B7 l r _ j=_;unfold B7
  by_cases hj:j<l.length
  ·rw [Be (dT (by omega)),D2 j _ rfl (List.getElem?_eq_getElem hj)];unfold Mf;rw [An (h j _ (List.getElem?_eq_getElem hj)),ckb (by omega)];exact ih (j+1) (by omega) (by omega)
  ·rw [An (dF (by omega))];rfl
theorem A1r {L:List (ByteArray×T)} (h:GoodR L) {F:Nat} (hF:400≤F):J2 F (rl L)=some 0:=by
 have hlen:=h.len;have l3:∀(n j:Nat),L.length+1≤n+j→j≤L.length→La F (rl L) n j=some 0:=by
  intro n
  induction n with
  | zero=>intro j h1 h2;omega
  | succ n ih =>
   intro j h1 h2;show L8 F (rl L) _ j=_;unfold L8;rw [Pi]
   by_cases hj:j<L.length
   ·have hp:=List.getElem?_eq_getElem hj;have hm:=List.getElem_mem hj;generalize L[j]=p at hp hm;obtain ⟨n1,n2⟩:=h.names p hm F (by omega);obtain ⟨t1,t2⟩:=h.trees p hm;have hsz:=Nat.le_trans (Xx hm) h.size;have e1:sift_isCondition (rlN p).When=true:=t1.kind.1;rw [Be (dT (by omega)),D2 j _ rfl (Wd hp),show beam_Name F (rlN p).Name=some true from n1,sbd,gdT (g:=(!true)==false&&true) rfl,show sift_word F (rlN p).Name=some false from n2,sbd,An (c:=bif !true then true else false) rfl,
     show Qu (rl L) 0 (j:Int)=some ((rl L).take j) by unfold Qu;rw [if_pos (by rw [Pi];omega)];simp,sbd]
    unfold Bh Bm;rw [show Au ((rl L).take j) (rlN p) F 0=some (-1) from A0q (by simp [Pi];omega) (by
     intro i x hx;obtain ⟨hi,hx2⟩:=List.getElem?_eq_some_iff.1 hx;have hij:i<j:=by simp [Pi] at hi;omega
     rw [List.getElem?_take_of_lt hij] at hx;have hq:=List.getElem?_eq_getElem (show i<L.length by omega);rw [Wd hq] at hx
     cases hx
     have:=h.distinct i j _ _ hq hp hij;exact dF fun e=>this (ByteArray.ext (Array.toList_inj.1 e))) F 0 (by simp [Pi];omega) (by omega),sbd,sbd,An (c:=decide ((-1:Int)≥0)) rfl,
     show Jr F (rlN p).When=some (p.2.depth:Int) from A00 p.2 F (by omega) (by omega),sbd,An (dF (by omega)),e1,gdT (g:=(!true)==false&&true) rfl,show De F (rlN p).When=some true from Xd p.2 true F t1 (by omega),sbd,An (c:=bif !true then true else !true) rfl,ckb (by omega)]
    exact ih (j+1) (by omega) (by omega)
   ·rw [An (dF (by omega))];rfl
 have l4:∀(n j:Nat) (y:Int),L.length+1≤n+j→j≤L.length→0≤y→y+(((L.drop j).map (·.2.size)).sum:Nat)≤300→Lb F (rl L) n j y=some 0:=by
  intro n
  induction n with
  | zero=>intro j y h1 h2;omega
  | succ n ih =>
   intro j y h1 h2 h3 h4;show L9 F (rl L) _ j y=_;unfold L9;rw [Pi]
   by_cases hj:j<L.length
   ·have hp:=List.getElem?_eq_getElem hj;have hm:=List.getElem_mem hj;generalize L[j]=p at hp hm;have hsz:=Nat.le_trans (Xx hm) h.size;rw [A33 hp] at h4;rw [Be (dT (by omega)),D2 j _ rfl (Wd hp),show Ei F (rlN p).When 300=some (p.2.size:Int) from Vy p.2 F 300 (by omega) (by omega) (by omega),sbd,ckb (by omega),An (dF (by omega)),ckb (by omega)];exact ih (j+1) _ (by omega) (by omega) (by omega) (by omega)
   ·rw [An (dF (by omega))];exact l3 F 0 (by omega) (by omega)
 unfold J2;rw [Pi,An (dF (by omega))];exact l4 F 0 0 (by omega) (by omega) (by omega) (by rw [List.drop_zero];have:=h.size;omega)
def jv (k:Int):List (Int→Int)→Int→List Int→sift_Verdict
 | [],_,l=>⟨-1,l⟩
 | f::fs,j,l=>if f k=1 then ⟨j,l⟩ else if f k=2 then jv k fs (j+1) (l++[j]) else jv k fs (j+1) l
def jst (R m:Nat) (g:Int→sift_Verdict) (a i:Nat):List (List sift_Verdict) :=
 (List.range R).map fun b=>(List.range (if b<a then m else if b=a then i else 0)).map fun j=>g ((b*m+j:Nat):Int)
theorem U7 (R m:Nat) (g:Int→sift_Verdict) (a i:Nat):(jst R m g a i).length=R:=by simp [jst]
theorem Vr {R m:Nat} {g:Int→sift_Verdict} {a i b:Nat} (hb:b<R):(jst R m g a i)[b]? = some ((List.range (if b<a then m else if b=a then i else 0)).map fun j=>g ((b*m+j:Nat):Int)):=by
 simp [jst,hb]
theorem A2a {R m:Nat} {g:Int→sift_Verdict} {a:Nat}:jst R m g a m=jst R m g (a+1) 0:=by
 unfold jst;apply List.map_congr_left;intro b _
 congr 2
 split<;>(try split)<;>(try split)<;>(try split)<;>omega
theorem A3v {R m:Nat} {g:Int→sift_Verdict} {a i:Nat} (ha:a<R):(jst R m g a i).set a (((List.range i).map fun j=>g ((a*m+j:Nat):Int))++[g ((a*m+i:Nat):Int)])=jst R m g a (i+1):=by
 apply List.ext_getElem?;intro b
 by_cases hb:b<R
 ·rw [Vr hb]
  by_cases e:b=a
  ·subst e;rw [List.getElem?_set_self (by rw [U7];exact hb),if_neg (by omega),if_pos rfl,List.range_succ,List.map_append];rfl
  ·rw [List.getElem?_set_ne (by omega),Vr hb];simp only [if_neg e]
 ·rw [List.getElem?_eq_none (by rw [List.length_set,U7];omega),List.getElem?_eq_none (by rw [U7];omega)]
section
variable {s:api_Sweep} {R m:Nat} {fs:List (Int→Int)}
def Qe (N:Nat) (fs:List (Int→Int)):List (List Int):=fs.map fun f=>tab N f
theorem A6p (h:Swp s R m) (hfs:fs.length≤32) {a i:Nat} (ha:a<R) (hi:i<m) {row:List api_Echo} (hrow:row.length=m) {st:List (List sift_Verdict)} {k5:List (List sift_Verdict)→Int→Option (List (List sift_Verdict)×Int)} {g:Int→sift_Verdict} (hst:st=jst R m g a i) :
  ∀(n j:Nat) (l:List Int),fs.length+1≤n+j→j≤fs.length→l.length≤j→jv ((a*m+i:Nat):Int) (fs.drop j) j l=g ((a*m+i:Nat):Int)→Jq (Qe (R*m) fs) a row st i k5 n l j=k5 (jst R m g a (i+1)) ((i:Int)+1):=by
 have hN:=h.N1;have hk:a*m+i<R*m:=by
  have h1:(a+1)*m≤R*m:=Nat.mul_le_mul_right m (by omega);rw [Nat.add_mul] at h1;omega
 have hm:=h.m1;have e1:(a:Int)*(m:Int)+(i:Int)=((a*m+i:Nat):Int):=by rw [Int.natCast_add,Int.natCast_mul]
 have e2:(a:Int)*(m:Int)=((a*m:Nat):Int):=(Int.natCast_mul ..).symm;have k7:∀(r:Int) (l:List Int),(⟨r,l⟩:sift_Verdict)=g ((a*m+i:Nat):Int)→Jp a st i k5 r l=k5 (jst R m g a (i+1)) ((i:Int)+1):=by
  intro r l hv;have hg:=Vr (R:=R) (m:=m) (g:=g) (a:=a) (i:=i) ha;rw [if_neg (by omega),if_pos rfl] at hg;unfold Jp Na;rw [hst,D2 a _ rfl hg,hv];rw [show apd 32 ((List.range i).map fun j=>g ((a*m+j:Nat):Int)) [g ((a*m+i:Nat):Int)]=some (((List.range i).map fun j=>g ((a*m+j:Nat):Int))++[g ((a*m+i:Nat):Int)]) by
   unfold apd;rw [if_pos (by simp;omega)],sbd,D2 a _ rfl hg,show Hp (jst R m g a i) (a:Int) (((List.range i).map fun j=>g ((a*m+j:Nat):Int))++[g ((a*m+i:Nat):Int)])=some (jst R m g a (i+1)) by
   unfold Hp;rw [if_pos (by rw [U7];omega),Int.toNat_natCast,A3v ha],sbd,ckb (by omega)]
 intro n
 induction n with
 | zero=>intro j l h1 h2;omega
 | succ n ih =>
  intro j l h1 h2 h3 hv;show Li (Qe (R*m) fs) a row st i k5 _ l j=_;unfold Li Lk;have hl:(Qe (R*m) fs).length=fs.length:=by simp [Qe]
  rw [hl]
  by_cases hj:j<fs.length
  ·have hx:(Qe (R*m) fs)[j]? = some (tab (R*m) fs[j]):=by simp [Qe,hj]
   rw [List.drop_eq_getElem_cons hj,jv] at hv;rw [Be (dT (by omega)),D2 j _ rfl hx,hrow,ckb (by rw [e2];omega),ckb (by rw [e1];omega),e1,Rl ⟨by omega,by omega⟩]
   by_cases c1:fs[j] ((a*m+i:Nat):Int)=1
   ·rw [if_pos c1] at hv;rw [Be (eqT c1)];exact k7 _ _ hv
   ·rw [if_neg c1] at hv;rw [An (eqF c1)]
    by_cases c2:fs[j] ((a*m+i:Nat):Int)=2
    ·rw [if_pos c2] at hv;rw [Be (eqT c2),show apd 8 l [(j:Int)]=some (l++[(j:Int)]) by unfold apd;rw [if_pos (by simp;omega)],sbd,ckb (by omega)];exact ih (j+1) _ (by omega) (by omega) (by simp;omega) hv
    ·rw [if_neg c2] at hv;rw [An (eqF c2),ckb (by omega)];exact ih (j+1) _ (by omega) (by omega) (by omega) hv
  ·rw [An (dF (by omega))];rw [List.drop_eq_nil_of_le (by omega),jv] at hv;exact k7 _ _ hv
theorem A6o (h:Swp s R m) (hfs:fs.length≤32) {F:Nat} (hF:2000≤F) {a:Nat} (ha:a<R) {row:List api_Echo} (hrow:row.length=m) {k3:List (List sift_Verdict)→Int→Option (List (List sift_Verdict)×Int)} :
  ∀(n i:Nat),m+1≤n+i→i≤m→H6 F (Qe (R*m) fs) a k3 row n (jst R m (fun k=>jv k fs 0 []) a i) i=k3 (jst R m (fun k=>jv k fs 0 []) (a+1) 0) ((a:Int)+1):=by
 have hm:=h.m1;have hR:=h.R4;intro n
 induction n with
 | zero=>intro i h1 h2;omega
 | succ n ih =>
  intro i h1 h2;show Lh F (Qe (R*m) fs) a k3 row _ _ i=_;unfold Lh;rw [hrow]
  by_cases hi:i<m
  ·rw [Be (dT (by omega)),show Jq (Qe (R*m) fs) a row (jst R m (fun k=>jv k fs 0 []) a i) i (H6 F (Qe (R*m) fs) a k3 row n) F [] 0=_ from A6p h hfs ha hi hrow rfl F 0 [] (by omega) (by omega) (by simp) rfl];exact ih (i+1) (by omega) (by omega)
  ·rw [An (dF (by omega)),show i=m by omega,A2a];unfold N9;rw [ckb (by omega)]
theorem A6n (h:Swp s R m) (hfs:fs.length≤32) {F:Nat} (hF:2000≤F) :
  ∀(n a:Nat),R+1≤n+a→a≤R→H5 F s (Qe (R*m) fs) n (jst R m (fun k=>jv k fs 0 []) a 0) a=some (jst R m (fun k=>jv k fs 0 []) R 0,0):=by
 have hm:=h.m1;have hR:=h.R4;intro n
 induction n with
 | zero=>intro a h1 h2;omega
 | succ n ih =>
  intro a h1 h2;show Lg F s (Qe (R*m) fs) _ _ a=_;unfold Lg;rw [h.hR]
  by_cases ha:a<R
  ·have hl:a<s.Rays.length:=by rw [h.hR];exact ha
   rw [Be (dT (by omega)),D2 a _ rfl (List.getElem?_eq_getElem hl),show H6 F (Qe (R*m) fs) a (H5 F s (Qe (R*m) fs) n) s.Rays[a] F (jst R m (fun k=>jv k fs 0 []) a 0) 0=_ from A6o h hfs hF ha (h.rows _ (List.getElem_mem hl)) F 0 (by omega) (by omega)];exact ih (a+1) (by omega) (by omega)
  ·rw [An (dF (by omega)),show a=R by omega];rfl
theorem A2b (R m:Nat) (g:Int→sift_Verdict):List.replicate R ([]:List sift_Verdict)=jst R m g 0 0:=by
 apply List.ext_getElem?;intro b
 by_cases hb:b<R
 ·rw [Vr hb,List.getElem?_replicate_of_lt hb,if_neg (by omega),ite_self];rfl
 ·rw [List.getElem?_eq_none (by simp;omega),List.getElem?_eq_none (by rw [U7];omega)]
def Gp (s:api_Sweep) (L:List (ByteArray×T)):List (Int→Int):=L.map fun p k=>(p.2.sem s k).1
def P1 (s:api_Sweep) (R m:Nat) (L:List (ByteArray×T)):List (List sift_Verdict) :=
 (List.range R).map fun b=>(List.range m).map fun j=>jv ((b*m+j:Nat):Int) (Gp s L) 0 []
theorem A29 (R m:Nat) (g:Int→sift_Verdict):jst R m g R 0=(List.range R).map fun b=>(List.range m).map fun j=>g ((b*m+j:Nat):Int):=by
 unfold jst;apply List.map_congr_left;intro b hb;rw [if_pos (List.mem_range.1 hb)]
theorem W5 {L:List (ByteArray×T)} (h:Swp s R m) (hL:GoodR L) {F:Nat} (hF:3000≤F) (hs:Cs F s=some 0):Kd F (rl L) s=some (P1 s R m L,0):=by
 have hm:=h.m1;have hR:=h.R4;have hN:=h.N1;have hlen:=hL.len;have k1:∀l1 l2,Lj F s l1 l2 (Qe (R*m) (Gp s L))=some (P1 s R m L,0):=by
  intro l1 l2;unfold Lj;rw [h.hR,show mkI 24 (R:Int) ([]:List sift_Verdict)=some (List.replicate R []) by unfold mkI;rw [if_pos (by simp only [Int.toNat_natCast];omega),Int.toNat_natCast],sbd,A2b R m (fun k=>jv k (Gp s L) 0 [])];rw [show H5 F s (Qe (R*m) (Gp s L)) F (jst R m (fun k=>jv k (Gp s L) 0 []) 0 0) 0=_ from A6n h (by simp [Gp];omega) (by omega) F 0 (by omega) (by omega),A29];rfl
 have l10:∀(y:sift_scan),y.s=s→y.n=(R*m:Nat)→∀(n j:Nat) l1 l2,L.length+1≤n+j→j≤L.length→Inv s (R*m) ⟨y.s,y.n,l1,l2⟩→Kf F (rl L) s y n l1 l2 j (Qe (R*m) (Gp s (L.take j)))=some (P1 s R m L,0):=by
  intro y hy1 hy2 n
  induction n with
  | zero=>intro j l1 l2 h1 h2;omega
  | succ n ih =>
   intro j l1 l2 h1 h2 h3;show Ke F (rl L) s y _ l1 l2 j _=_;unfold Ke;rw [Pi]
   by_cases hj:j<L.length
   ·have hp:=List.getElem?_eq_getElem hj;have hmm:=List.getElem_mem hj;have htk:L.take (j+1)=L.take j++[L[j]]:=by rw [List.take_add_one,hp];rfl
    generalize L[j]=p at hp hmm htk;have hsz:=Nat.le_trans (Xx hmm) hL.size;obtain ⟨d',q1,q2⟩:=(A0d h p.2 F ⟨y.s,y.n,l1,l2⟩ (by omega) (by omega) h3).1 (hL.trees p hmm).1;rw [Be (dT (by omega)),D2 j _ rfl (Wd hp),show Cz F ⟨y.s,y.n,l1,l2⟩ (rlN p).When=_ from q1,sbd];dsimp only;rw [show apd 24 (Qe (R*m) (Gp s (L.take j))) [tab (R*m) fun k=>(p.2.sem s k).1]=some (Qe (R*m) (Gp s (L.take (j+1)))) by
     unfold apd;rw [if_pos (by simp [Qe,Gp];omega),htk];simp [Qe,Gp],sbd,ckb (by omega)]
    refine ih (j+1) d'.tests d'.values (by omega) (by omega) ?_;have:=h3.eta q2;rw [this];exact q2
   ·rw [An (dF (by omega)),show j=L.length by omega,List.take_length];exact k1 _ _
 unfold Kd Kz;rw [A1r hL (by omega),sbd,An (neF rfl),hs,sbd,An (neF rfl),h.hR,h.hm,ckb (by rw [←Int.natCast_mul];omega),sbd];exact l10 _ rfl (Int.natCast_mul ..).symm F 0 [] [] (by omega) (by omega) ⟨rfl,(Int.natCast_mul ..).symm,(fun t l _ hl=>by cases hl),(fun t l _ hl=>by cases hl)⟩
end
end Go.Proofs.YtkjnafecmjakcaaGreatDoor
namespace Go.Proofs.YtkjnafecmjakcaaGreatDoor
open Go Go.RowKit Go.Eng
set_option maxRecDepth 10000
set_option linter.unusedVariables false
set_option linter.unusedSimpArgs false
def byts (l:List Int):Prop:=∀x∈l,0≤x∧x<256
def T.noRay:T→Prop
 | .leaf op _=>op≠22
 | .un _ _ _ a=>a.noRay
 | .bin _ a b=>a.noRay∧b.noRay
theorem Pz {p:List Int} (hp:byts p) (F:Nat) {n:Int} (hn:1≤n):∃x p',Br F p n=some (x,p')∧0≤x∧x<n∧byts p':=by
 unfold Br
 cases p with
 | nil=>exact ⟨0,[],rfl,by omega,by omega,hp⟩
 | cons a l =>
  have ha:=hp a (by simp);refine ⟨a%n,l,?_,Int.emod_nonneg _ (by omega),Int.emod_lt_of_pos _ (by omega),fun x hx=>hp x (by simp [hx])⟩;rw [An (eqF (by simp;omega)),Wm,ckb (by omega),Vh ha.1 hn];unfold Qu;rw [if_pos (by simp only [List.length_cons];omega)];simp
theorem Q3 (n:sift_Node):sift_Node.mk n.Op n.Value_ n.Rays n.Gates n.Args=n:=by cases n;rfl
structure Mean (k ray:Bool) (d:Nat) (t:T):Prop where
 ok:okT k t
 size:t.size+1≤2 ^ d
 depth:t.depth≤d
 one:d=1→t.op<26
 ray:ray=false→t.noRay
theorem A2s {d:Nat} (h:1≤d):2≤2 ^ d:=Nat.pow_le_pow_right (n:=2) (i:=1) (by omega) h
theorem A45 (ray:Bool):∀(d F:Nat) (p:List Int),byts p→d+1≤F→d≤100 →
  (2≤d→∃t p',Bi F p d ray=some (t.node,p')∧Mean true ray d t∧byts p') ∧
  (1≤d→∃t p',Cb F p d ray=some (t.node,p')∧Mean false ray d t∧byts p'):=by
 intro d
 induction d using Nat.strongRecOn with
 | _ d ih =>
  intro F p hp hF hd;obtain ⟨F,rfl⟩:∃G,F=G+1:=⟨F-1,by omega⟩;constructor
  ·intro h2;obtain ⟨e,rfl⟩:∃e,d=e+1:=⟨d-1,by omega⟩;have hpw:2 ^ (e+1)=2 ^ e+2 ^ e:=by rw [Nat.pow_succ];omega
   have hp2:=A2s (d:=e) (by omega);have k1:∀(l:List Int) (x:Int),byts l→1≤x∧x≤13→(e+1<3→8≤x)→∃t p',C0 F (Bi F) (Cb F) (e+1:Nat) ray l x=some (t.node,p')∧Mean true ray (e+1) t∧byts p':=by
    intro l x hl hx hx3;unfold C0;have hdm:((e+1:Nat):Int)-1=(e:Int):=by omega
    rw [hdm,ckb (by omega),ckb (by omega),ckb (by omega)]
    by_cases c1:x≤2
    ·rw [Be (dT c1)];exact ⟨.leaf x 0,l,rfl,⟨by show (x=1∨x=2)∧(0:Int)=0;omega,by simp only [T.size];omega,by simp only [T.depth];omega,by omega,fun _=>by simp only [T.noRay];omega⟩,hl⟩
    rw [An (dF c1)]
    by_cases c2:x=3
    ·obtain ⟨t,p',q1,q2,q3⟩:=(ih e (by omega) F l hl (by omega) (by omega)).1 (by omega);rw [Be (eqT c2),q1,sbd];exact ⟨.un x 0 0 t,p',by dsimp only;rw [Q3];rfl,⟨by simp only [okT];exact ⟨.inl ⟨c2,trivial,trivial⟩,q2.ok⟩,by have:=q2.size;simp only [T.size];omega,by have:=q2.depth;simp only [T.depth];omega,by omega,fun hr=>q2.ray hr⟩,q3⟩
    rw [An (eqF c2)]
    by_cases c3:x≤5
    ·obtain ⟨t,p',q1,q2,q3⟩:=(ih e (by omega) F l hl (by omega) (by omega)).1 (by omega);obtain ⟨t2,p2,r1,r2,r3⟩:=(ih e (by omega) F p' q3 (by omega) (by omega)).1 (by omega);rw [Be (dT c3),q1,sbd,ckb (by omega)];dsimp only;rw [r1,sbd];exact ⟨.bin x t t2,p2,by dsimp only;rw [Q3,Q3];rfl,⟨by simp only [okT];exact .inl ⟨by omega,q2.ok,r2.ok⟩,by have:=q2.size;have:=r2.size;simp only [T.size];omega,by have:=q2.depth;have:=r2.depth;simp only [T.depth];omega,by omega,fun hr=>⟨q2.ray hr,r2.ray hr⟩⟩,r3⟩
    rw [An (dF c3)]
    by_cases c4:x≤7
    ·obtain ⟨a,pa,a1,a2,a3,a4⟩:=Pz hl F (n:=3) (by omega);obtain ⟨b,pb,b1,b2,b3,b4⟩:=Pz a4 F (n:=3) (by omega);obtain ⟨t,p',q1,q2,q3⟩:=(ih e (by omega) F pb b4 (by omega) (by omega)).1 (by omega);rw [Be (dT c4),a1,sbd];dsimp only;rw [b1,sbd,ckb (by omega)];dsimp only;rw [q1,sbd];exact ⟨.un x a b t,p',by dsimp only;rw [Q3];rfl,⟨by simp only [okT];exact ⟨.inr ⟨by omega,by omega,by omega,by omega,by omega⟩,q2.ok⟩,by have:=q2.size;simp only [T.size];omega,by have:=q2.depth;simp only [T.depth];omega,by omega,fun hr=>q2.ray hr⟩,q3⟩
    rw [An (dF c4)];obtain ⟨t,p',q1,q2,q3⟩:=(ih e (by omega) F l hl (by omega) (by omega)).2 (by omega);obtain ⟨t2,p2,r1,r2,r3⟩:=(ih e (by omega) F p' q3 (by omega) (by omega)).2 (by omega);rw [q1,sbd,ckb (by omega)];dsimp only;rw [r1,sbd];exact ⟨.bin x t t2,p2,by dsimp only;rw [Q3,Q3];rfl,⟨by simp only [okT];exact .inr ⟨by omega,by omega,q2.ok,r2.ok⟩,by have:=q2.size;have:=r2.size;simp only [T.size];omega,by have:=q2.depth;have:=r2.depth;simp only [T.depth];omega,by omega,fun hr=>⟨q2.ray hr,r2.ray hr⟩⟩,r3⟩
   show ∃t p',D9 F (Bi F) (Cb F) p (e+1:Nat) ray=_∧_;unfold D9;obtain ⟨a,pa,a1,a2,a3,a4⟩:=Pz hp F (n:=13) (by omega);rw [a1,sbd,ckb (by omega)];dsimp only
   by_cases c:((e+1:Nat):Int)<3∧1+a<8
   ·obtain ⟨b,pb,b1,b2,b3,b4⟩:=Pz a4 F (n:=6) (by omega);rw [Be (by rw [dT c.1,dT c.2];rfl),b1,sbd,ckb (by omega)];exact k1 pb _ b4 (by omega) (by omega)
   ·rw [An (by rw [←Bool.not_eq_true];intro hc;exact c (A6c.1 hc))];exact k1 pa _ a4 (by omega) (by omega)
  ·intro h1;obtain ⟨e,rfl⟩:∃e,d=e+1:=⟨d-1,by omega⟩;have hpw:2 ^ (e+1)=2 ^ e+2 ^ e:=by rw [Nat.pow_succ];omega
   have hpos:1≤2 ^ e:=Nat.one_le_two_pow;have hdm:((e+1:Nat):Int)-1=(e:Int):=by omega
   show ∃t p',Fb F (Bi F) (Cb F) p (e+1:Nat) ray=_∧_;have k1:∀(y:Int×List Int) (x:Int),byts y.2→14≤x∧x≤27→(e+1<2→x<25)→(e+1<4→x≠25)→(ray=false→x≠22)→∃t p',Bu F (Bi F) (Cb F) (e+1:Nat) ray y x=some (t.node,p')∧Mean false ray (e+1) t∧byts p':=by
    intro y x hl hx hx2 hx4 hxr;unfold Bu
    by_cases c1:x=14
    ·obtain ⟨b,pb,b1,b2,b3,b4⟩:=Pz hl F (n:=256) (by omega);rw [Be (eqT c1),b1,sbd];exact ⟨.leaf x b,pb,rfl,⟨by simp only [okT];omega,by simp only [T.size];omega,by simp only [T.depth];omega,fun _=>by simp only [T.op];omega,fun _=>by simp only [T.noRay];omega⟩,b4⟩
    rw [An (eqF c1)]
    by_cases c2:x=25
    ·obtain ⟨a,pa,a1,a2,a3,a4⟩:=Pz hl F (n:=3) (by omega);obtain ⟨b,pb,b1,b2,b3,b4⟩:=Pz a4 F (n:=3) (by omega);obtain ⟨t,p',q1,q2,q3⟩:=(ih e (by omega) F pb b4 (by omega) (by omega)).1 (by omega);rw [Be (eqT c2),a1,sbd];dsimp only;rw [b1,sbd,hdm,ckb (by omega)];dsimp only;rw [q1,sbd];exact ⟨.un x a b t,p',by dsimp only;rw [Q3];rfl,⟨by simp only [okT];exact ⟨⟨c2,by omega,by omega,by omega,by omega⟩,q2.ok⟩,by have:=q2.size;simp only [T.size];omega,by have:=q2.depth;simp only [T.depth];omega,fun _=>by simp only [T.op];omega,fun hr=>q2.ray hr⟩,q3⟩
    rw [An (eqF c2)];have k2:∀c:Bool,(c=true↔x=26∨x=27)→∃t p',Cq (Cb F) (e+1:Nat) ray y x c=some (t.node,p')∧Mean false ray (e+1) t∧byts p':=by
     intro c hc;unfold Cq
     by_cases c3:x=26∨x=27
     ·have he:1≤e:=by omega
      have hp2:=A2s he;obtain ⟨t2,p2,r1,r2,r3⟩:=(ih 1 (by omega) F y.2 hl (by omega) (by omega)).2 (by omega);obtain ⟨t,p',q1,q2,q3⟩:=(ih e (by omega) F p2 r3 (by omega) (by omega)).2 he;rw [Be (hc.2 c3),show Cb F y.2 1 ray=_ from r1,sbd,hdm,ckb (by omega)];dsimp only;rw [q1,sbd];exact ⟨.bin x t t2,p',by dsimp only;rw [Q3,Q3];rfl,⟨by simp only [okT];exact ⟨c3,q2.ok,r2.ok,r2.one rfl⟩,by have:=q2.size;have:=r2.size;simp only [T.size];omega,by have:=q2.depth;have:=r2.depth;simp only [T.depth];omega,by omega,fun hr=>⟨q2.ray hr,r2.ray hr⟩⟩,q3⟩
     ·rw [An (by rw [←Bool.not_eq_true];intro h;exact c3 (hc.1 h))];exact ⟨.leaf x 0,y.2,rfl,⟨by show (x=14∧(0:Int)≤0∧(0:Int)≤1000000000)∨(15≤x∧x≤24∧(0:Int)=0);omega,by simp only [T.size];omega,by simp only [T.depth];omega,fun _=>by simp only [T.op];omega,fun hr=>hxr hr⟩,hl⟩
    by_cases c3:x=26
    ·rw [Be (eqT c3)];exact k2 _ (by rw [beq_iff_eq];omega)
    ·rw [An (eqF c3)];exact k2 _ (by rw [beq_iff_eq];omega)
   unfold Fb;obtain ⟨a,pa,a1,a2,a3,a4⟩:=Pz hp F (n:=14) (by omega);rw [a1,sbd,ckb (by omega)];dsimp only;have key:∀c:Bool,(c=true→True)→(c=false→(e+1<2→14+a<25)∧(e+1<4→14+a≠25)∧(ray=false→14+a≠22))→∃t p',(bif c then Bu F (Bi F) (Cb F) (e+1:Nat) ray (a,pa) 14 else Bu F (Bi F) (Cb F) (e+1:Nat) ray (a,pa) (14+a))=some (t.node,p')∧Mean false ray (e+1) t∧byts p':=by
    intro c _ hc
    cases c
    ·obtain ⟨z1,z2,z3⟩:=hc rfl;exact k1 (a,pa) (14+a) a4 (by omega) z1 z2 z3
    ·exact k1 (a,pa) 14 a4 (by omega) (by omega) (by omega) (by omega)
   refine key _ (fun _=>trivial) fun hc=>?_;have o1:∀{x y:Bool},(bif x then true else y)=false→x=false∧y=false:=by intro x y;cases x<;>cases y<;>simp
   obtain ⟨h1,h2⟩:=o1 hc;obtain ⟨h3,h4⟩:=o1 h1;refine ⟨fun hx=>?_,fun hx=>?_,fun hx=>?_⟩
   ·rw [Be (dT (by omega))] at h4;have:=of_decide_eq_false h4;omega
   ·rw [Be (dT (by omega))] at h2;intro e;rw [eqT e] at h2;cases h2
   ·subst hx;intro e;rw [eqT e] at h3;cases h3
end Go.Proofs.YtkjnafecmjakcaaGreatDoor
namespace Go.Proofs.YtkjnafecmjakcaaGreatDoor
open Go Go.RowKit Go.Eng
set_option maxRecDepth 10000
set_option linter.unusedVariables false
set_option linter.unusedSimpArgs false
def nms:List ByteArray:=[(⟨#[97]⟩:ByteArray),(⟨#[98,49]⟩:ByteArray),(⟨#[99,95]⟩:ByteArray),(⟨#[100,100,100,100,100,100,100,100,100,100,100,100]⟩:ByteArray)]
theorem A5q:[(⟨#[97]⟩:ByteArray),(⟨#[98,49]⟩:ByteArray),(⟨#[99,95]⟩:ByteArray),(⟨#[100,100,100,100,100,100,100,100,100,100,100,100]⟩:ByteArray)]=nms:=rfl
structure MeanR (ray:Bool) (L:List (ByteArray×T)):Prop where
 len:L.length≤4
 names:∀(i:Nat) p,L[i]? = some p→nms[i]? = some p.1
 trees:∀p∈L,Mean true ray 5 p.2
theorem A6q:∀p∈nms,∀F,30≤F→beam_Name F p=some true∧sift_word F p=some false:=by
 intro p hp F hF;obtain ⟨F,rfl⟩:∃G,F=G+30:=⟨F-30,by omega⟩;simp only [nms,List.mem_cons,List.not_mem_nil,or_false] at hp;rcases hp with rfl|rfl|rfl|rfl<;>exact ⟨rfl,rfl⟩
theorem A5r:∀(i j:Nat) (p q:ByteArray),nms[i]? = some p→nms[j]? = some q→i<j→p≠q:=by
 have key:∀i:Fin 4,∀j:Fin 4,i.val<j.val→nms[i.val]?≠nms[j.val]?:=by decide
 intro i j p q h1 h2 hij e;have a:=(List.getElem?_eq_some_iff.1 h1).1;have b:=(List.getElem?_eq_some_iff.1 h2).1;exact key ⟨i,a⟩ ⟨j,b⟩ hij (by show nms[i]? = nms[j]?;rw [h1,h2,e])
theorem MeanR.good {ray:Bool} {L:List (ByteArray×T)} (h:MeanR ray L):GoodR L:=by
 have hs:∀M:List (ByteArray×T),(∀p∈M,Mean true ray 5 p.2)→(M.map (·.2.size)).sum≤31*M.length:=by
  intro M
  induction M with
  | nil=>simp
  | cons p M ih =>
   intro hM;have h1:=(hM p (by simp)).size;have h2:=ih fun q hq=>hM q (by simp [hq]);rw [List.map_cons,List.sum_cons,List.length_cons];omega
 refine ⟨by have:=h.len;omega,?_,?_,?_,?_⟩
 ·have:=hs L h.trees;have:=h.len;omega
 ·intro p hp F hF;obtain ⟨i,hi,e⟩:=List.mem_iff_getElem.1 hp;have:=h.names i p (by rw [List.getElem?_eq_getElem hi,e]);exact A6q _ (List.mem_of_getElem? this) F hF
 ·intro i j p q h1 h2 hij;exact A5r i j _ _ (h.names i p h1) (h.names j q h2) hij
 ·intro p hp;have:=h.trees p hp;exact ⟨this.ok,by have:=this.depth;omega⟩
theorem A2w {p:List Int} (hp:byts p) {n:Int} (hn:0≤n∧n<256) (ray:Bool) {F:Nat} (hF:20≤F) :
  ∃L p',Gw F p n ray=some (rl L,p')∧MeanR ray L∧L.length=(n%5).toNat:=by
 have hn5:0≤n%5∧n%5<5:=⟨Int.emod_nonneg _ (by omega),Int.emod_lt_of_pos _ (by omega)⟩;have go:∀(k:Nat) (j:Nat) (l:List Int) (L:List (ByteArray×T)),byts l→MeanR ray L→L.length=j→(n%5).toNat+1≤k+j→j≤(n%5).toNat →
   ∃L' p',Ex F ray (n%5) k l j (rl L)=some (rl L',p')∧MeanR ray L'∧L'.length=(n%5).toNat:=by
  intro k
  induction k with
  | zero=>intro j l L _ _ _ h1 h2;omega
  | succ k ih =>
   intro j l L hl hL hj h1 h2;show ∃L' p',Ew F ray (n%5) _ l j (rl L)=_∧_;unfold Ew;rw [A5q]
   by_cases c:(j:Int)<n%5
   ·have hj4:j<4:=by omega
    obtain ⟨nm,hnm⟩:∃nm,nms[j]? = some nm:=⟨nms[j]'(by simp [nms];omega),List.getElem?_eq_getElem (by simp [nms];omega)⟩;obtain ⟨t,p',q1,q2,q3⟩:=(A45 ray 5 F l hl (by omega) (by omega)).1 (by omega);rw [Be (dT c),D2 j nm rfl hnm,show Bi F l 5 ray=_ from q1,sbd];dsimp only;rw [Q3,show apd 72 (rl L) [⟨nm,t.node⟩]=some (rl (L++[(nm,t)])) by
     unfold apd;rw [if_pos (by rw [Pi];simp;omega)];simp [rl,rlN],sbd,ckb (by omega)]
    refine ih (j+1) p' _ q3 ⟨by simp;omega,fun i q hq=>?_,fun q hq=>?_⟩ (by simp;omega) (by omega) (by omega)
    ·by_cases hi:i<L.length
     ·rw [List.getElem?_append_left hi] at hq;exact hL.names i q hq
     ·obtain ⟨h5,h6⟩:=List.getElem?_eq_some_iff.1 hq;have:i=j:=by simp at h5;omega
      subst this;rw [←hj,List.getElem?_append_right (by omega),Nat.sub_self] at hq
      cases hq;exact hnm
    ·rcases List.mem_append.1 hq with hq|hq
     ·exact hL.trees q hq
     ·rw [List.mem_singleton] at hq;subst hq;exact q2
   ·rw [An (dF c)];exact ⟨L,l,rfl,hL,by omega⟩
 unfold Gw;rw [ckb (by omega),Vh hn.1 (by omega)];exact go F 0 p [] hp ⟨by simp,fun i q hq=>by simp at hq,fun q hq=>by simp at hq⟩ rfl (by omega) (by omega)
def inS (x:api_Span) (lo hi:Int):Prop:=lo≤x.Lo∧x.Lo≤x.Hi∧x.Hi≤hi
def trS (x:api_Span):Prop:=-32768≤x.Lo∧x.Lo≤x.Hi∧x.Hi≤32767
def zS (x:api_Span):Prop:=x.Lo=0∧x.Hi=0
def okE (e:api_Echo):Prop :=
 (e.Kind=1∧inS e.Power 0 1073741824∧e.Power.Lo=0∧zS e.Steps.1∧zS e.Steps.2∧e.Spread=0∧zS e.Ratio∧zS e.Match∧zS e.Turn) ∨
 ((e.Kind=2∨e.Kind=3)∧inS e.Power 0 1073741824∧0<e.Power.Lo∧inS e.Ratio 0 1000000∧inS e.Match 0 1000∧0≤e.Spread∧e.Spread≤65535 ∧
  (e.Kind=2→zS e.Steps.1∧zS e.Steps.2∧zS e.Turn)∧(e.Kind=3→trS e.Steps.1∧trS e.Steps.2∧trS e.Turn))
theorem okE.bd {e:api_Echo} (h:okE e):bdE e:=by
 unfold okE inS trS zS at h;unfold bdE bdS;omega
theorem Td {x:api_Span} {lo hi:Int} (h:inS x lo hi):Aj x lo hi=true:=by
 unfold Aj;rw [dT h.1,dT h.2.1,Be rfl,Be rfl,dT h.2.2]
theorem Sp {x lo hi:Int} (h:lo≤x∧x≤hi):Av x lo hi=true:=by
 unfold Av;rw [dT h.1,Be rfl,dT h.2]
theorem A6b {x:api_Span} (h:zS x):(((x.Lo:Int)==0)&&(((x.Hi:Int)==0)&&true))=true:=by rw [h.1,h.2];rfl
theorem A4k {l:List api_Span} (hl:l.length≤10) (h:∀x∈l,trS x) {F:Nat}:∀(n j:Nat),l.length+1≤n+j→j≤l.length→G5 l n j=some true:=by
 intro n
 induction n with
 | zero=>intro j h1 h2;omega
 | succ n ih =>
  intro j h1 h2;show Hl l _ j=_;unfold Hl
  by_cases hj:j<l.length
  ·obtain ⟨t1,t3,t4⟩:=h _ (List.getElem_mem hj);rw [Be (dT (by omega)),D2 j _ rfl (List.getElem?_eq_getElem hj),Sp ⟨t1,by omega⟩,gdT (g:=(!true)==false&&true) rfl,ckb (by omega),gdT (g:=(!true)==false&&true) rfl,ckb (by omega),Sp ⟨t3,by omega⟩,An (c:=bif !true then true else !true) rfl,ckb (by omega)];exact ih (j+1) (by omega) (by omega)
  ·rw [An (dF (by omega))];rfl
theorem A3l {e:api_Echo} (h:okE e) {F:Nat} (hF:10≤F):Gq F e=some 0:=by
 unfold Gq;rcases h with ⟨h1,h2,h3,h4,h5,h6,h7,h8,h9⟩|⟨h1,h2,h3,h4,h5,h6,h7,h8,h9⟩
 ·rw [Be (eqT h1),Be (Td h2)];simp only [h1,h3,h4.1,h4.2,h5.1,h5.2,h6,h7.1,h7.2,h8.1,h8.2,h9.1,h9.2];rw [eqT (a:=e.Power.Hi) rfl];rfl
 ·rw [An (eqF (by omega))];unfold Gk
  by_cases c:e.Kind=2
  ·obtain ⟨z1,z2,z3⟩:=h8 c;rw [Be (eqT c),eqT c,Be rfl,Be rfl,Td h2,dT h3,Td h4,Td h5,Sp ⟨h6,h7⟩,A6b z1,A6b z2,A6b z3];rfl
  ·obtain ⟨z1,z2,z3⟩:=h9 (by omega);rw [An (eqF c),eqT (show e.Kind=3 by omega),Be rfl,An (eqF c),Td h2,dT h3,Td h4,Td h5,Sp ⟨h6,h7⟩];unfold N6;rw [Be rfl,show G5 [⟨e.Steps.1.Lo,e.Steps.1.Hi⟩,⟨e.Steps.2.Lo,e.Steps.2.Hi⟩,e.Turn] F 0=some true from A4k (F:=0) (by simp) (by
    intro x hx;simp only [List.mem_cons,List.not_mem_nil,or_false] at hx;rcases hx with rfl|rfl|rfl
    ·exact z1
    ·exact z2
    ·exact z3) F 0 (by simp;omega) (by simp)]
   rfl
structure Okw (s:api_Sweep) (r m:Nat):Prop where
 site:s.Site=⟨⟨#[115]⟩,0,0,0,r,m,500,0⟩
 r1:1≤r∧r≤3
 m1:1≤m∧m≤4
 time:s.Time=0
 tilt:0≤s.Tilt∧s.Tilt≤255
 len:s.Rays.length=4*r
 rows:∀l∈s.Rays,l.length=m∧∀e∈l,okE e
theorem Okw.swp {s:api_Sweep} {r m:Nat} (h:Okw s r m):Swp s (4*r) m:=by
 have h1:=h.r1;have h2:=h.m1;have h3:=h.tilt;refine ⟨h.len,by rw [h.site],by omega,by omega,?_,fun l hl=>(h.rows l hl).1,fun l hl e he=>((h.rows l hl).2 e he).bd,by omega⟩;have:=Nat.mul_le_mul (show 4*r≤12 by omega) h2.2;omega
theorem Okw.check {s:api_Sweep} {r m:Nat} (h:Okw s r m) {F:Nat} (hF:50≤F):Cs F s=some 0:=by
 have h1:=h.r1;have h2:=h.m1;have h3:=h.tilt;have l5:∀(row:List api_Echo),row∈s.Rays→∀(x:Int) (k:Int→Option Int) (n j:Nat),m+1≤n+j→j≤m→0≤x∧x≤100→E6 F x k row n j=k (x+1):=by
  intro row hrow x k n;obtain ⟨e1,e2⟩:=h.rows row hrow
  induction n with
  | zero=>intro j h1 h2;omega
  | succ n ih =>
   intro j h1 h2 hx;show Fg F x k row _ j=_;unfold Fg
   by_cases hj:j<row.length
   ·rw [Be (dT (by omega)),D2 j _ rfl (List.getElem?_eq_getElem hj),show Gq F _=some 0 from A3l (e2 _ (List.getElem_mem hj)) (by omega),sbd,An (neF rfl),ckb (by omega)];exact ih (j+1) (by omega) (by omega) hx
   ·rw [An (dF (by omega))];unfold Ha;rw [ckb (by omega)]
 have l3:∀(n j:Nat),s.Rays.length+1≤n+j→j≤s.Rays.length→Fi F s n j=some 0:=by
  intro n
  induction n with
  | zero=>intro j h1 h2;omega
  | succ n ih =>
   intro j h4 h5;have hl:=h.len;show Ff F s _ j=_;unfold Ff
   by_cases hj:j<s.Rays.length
   ·rw [Be (dT (by omega)),D2 j _ rfl (List.getElem?_eq_getElem hj),show E6 F j _ _ F 0=_ from l5 _ (List.getElem_mem hj) j _ F 0 (by omega) (by omega) (by omega)];exact ih (j+1) (by omega) (by omega)
   ·rw [An (dF (by omega))];rfl
 have l6:∀(n j:Nat),s.Rays.length+1≤n+j→j≤s.Rays.length→Fj F s n j=some 0:=by
  intro n
  induction n with
  | zero=>intro j h1 h2;omega
  | succ n ih =>
   intro j h4 h5;have hl:=h.len;show Fh F s _ j=_;unfold Fh
   by_cases hj:j<s.Rays.length
   ·rw [Be (dT (by omega)),D2 j _ rfl (List.getElem?_eq_getElem hj),An (neF (by rw [(h.rows _ (List.getElem_mem hj)).1,h.site])),ckb (by omega)];exact ih (j+1) (by omega) (by omega)
   ·rw [An (dF (by omega))];exact l3 F 0 (by omega) (by omega)
 have hsite:K3 F s.Site=some 0:=by
  have e1:Ax (r:Int) 1 90=true:=Sp ⟨by omega,by omega⟩;have e2:Ax (m:Int) 1 200=true:=Sp ⟨by omega,by omega⟩;rw [h.site];unfold K3;rw [show beam_Name F (⟨#[115]⟩:ByteArray)=some true from rfl,sbd,An (c:=!true) rfl];unfold F1;dsimp only;rw [e1,e2];rfl
 unfold Cs;rw [hsite,sbd,An (neF rfl),Sp (x:=s.Tilt) ⟨h3.1,by omega⟩,Sp (x:=s.Time) (by rw [h.time];omega),An (c:=bif !true then true else !true) rfl,h.site];dsimp only;rw [ckb (by omega),An (neF (by rw [h.len];omega))];exact l6 F 0 (by have:=h.len;omega) (by omega)
end Go.Proofs.YtkjnafecmjakcaaGreatDoor
namespace Go.Proofs.YtkjnafecmjakcaaGreatDoor
open Go Go.RowKit Go.Eng
set_option maxRecDepth 10000
set_option linter.unusedVariables false
set_option linter.unusedSimpArgs false
theorem Ql {l:List Int} (hl:byts l) (F:Nat) {i n:Int} (hi:0≤i) (hn:1≤n):∃x,Fk F l i n=some x∧0≤x∧x<n:=by
 unfold Fk
 by_cases h:l.length=0
 ·exact ⟨0,by rw [Be (eqT (by omega))],by omega,by omega⟩
 ·have h1:0≤i%(l.length:Int)∧i%(l.length:Int)<(l.length:Int):=⟨Int.emod_nonneg _ (by omega),Int.emod_lt_of_pos _ (by omega)⟩;have h2:(i%(l.length:Int)).toNat<l.length:=by omega
  have hb:=hl _ (List.getElem_mem h2);refine ⟨l[(i%(l.length:Int)).toNat]%n,?_,Int.emod_nonneg _ (by omega),Int.emod_lt_of_pos _ (by omega)⟩;rw [An (eqF (by omega)),Vh hi (by omega),D2 (i%(l.length:Int)).toNat _ (by omega) (List.getElem?_eq_getElem h2),ckb (by omega),Vh hb.1 hn]
structure AirIn (a:law04_Air):Prop where
 rose:0≤a.Rose∧a.Rose<256
 gates:0≤a.Gates∧a.Gates<256
 tilt:0≤a.Tilt∧a.Tilt<256
 kinds:byts a.Kinds
 low:byts a.Low
 wide:byts a.Wide
theorem Ue {a:law04_Air} (h:AirIn a) (F:Nat) {i k:Int} (hi:0≤i∧i≤10) (hk:0≤k∧k≤1000):∃x,Ca F i a k=some x∧0≤x.Lo∧x.Lo≤x.Hi∧x.Hi≤240:=by
 obtain ⟨x,h1,h2,h3⟩:=Ql h.low F (i:=k+i) (n:=200) (by omega) (by omega);obtain ⟨y,h4,h5,h6⟩:=Ql h.wide F (i:=k+2*i) (n:=40) (by omega) (by omega);refine ⟨⟨x,x+y⟩,?_,h2,by dsimp only;omega,by dsimp only;omega⟩;unfold Ca Ae;rw [ckb (by omega),h1,sbd,ckb (by omega),ckb (by omega),h4,sbd,ckb (by omega)]
theorem A58 {a:law04_Air} (h:AirIn a) {F:Nat} (hF:50≤F):∃s,Jg F a=some s∧Okw s (1+a.Rose%3).toNat (1+a.Gates%4).toNat:=by
 have hr:0≤a.Rose%3∧a.Rose%3<3:=⟨Int.emod_nonneg _ (by omega),Int.emod_lt_of_pos _ (by omega)⟩;have hg:0≤a.Gates%4∧a.Gates%4<4:=⟨Int.emod_nonneg _ (by omega),Int.emod_lt_of_pos _ (by omega)⟩;have h1:=h.rose;have h2:=h.gates;have h3:=h.tilt;generalize hm:(1+a.Gates%4).toNat=m;have hm2:1+a.Gates%4=(m:Int):=by omega
 generalize hrr:(1+a.Rose%3).toNat=r;have hr2:1+a.Rose%3=(r:Int):=by omega
 have l5:∀(st:List (List api_Echo)) (b:Int) (k2:List (List api_Echo)→Int→Int→Option api_Sweep),st.length≤20→0≤b∧b≤20→∀(n j:Nat) (k:Int) (l:List api_Echo),m+1≤n+j→j≤m→0≤k∧k+(m-j)≤200→l.length=j→(∀e∈l,okE e) →
   ∃row,row.length=m∧(∀e∈row,okE e)∧Cl F a m st b k2 n k j l=k2 (st++[row]) (k+(m-j)) (b+1):=by
  intro st b k2 hst hb n
  induction n with
  | zero=>intro j k l h1 h2;omega
  | succ n ih =>
   intro j k l h4 h5 h6 h7 h8;show ∃row,_∧_∧G8 F a m st b k2 (Cl F a m st b k2 n) k j l=_;unfold G8
   by_cases c:j<m
   ·have k6:∀kk p1 p2 p3 p4 p5 p6 p7 p8 p9 p10 p11,okE ⟨kk,⟨p1,p6⟩,(⟨p7,p8⟩,⟨0,0⟩),p9,⟨p10,p11⟩,⟨p2,p3⟩,⟨p4,p5⟩⟩→∃row,row.length=m∧(∀e∈row,okE e)∧D3 k j l (Cl F a m st b k2 n) kk p1 p2 p3 p4 p5 p6 p7 p8 p9 p10 p11=k2 (st++[row]) (k+(m-j)) (b+1):=by
     intro kk p1 p2 p3 p4 p5 p6 p7 p8 p9 p10 p11 hok;unfold D3;rw [show apd 112 l [(⟨kk,⟨p1,p6⟩,(⟨p7,p8⟩,⟨0,0⟩),p9,⟨p10,p11⟩,⟨p2,p3⟩,⟨p4,p5⟩⟩:api_Echo)]=some _ by unfold apd;rw [if_pos (by simp;omega)],sbd,ckb (by omega),ckb (by omega)];obtain ⟨row,q1,q2,q3⟩:=ih (j+1) (k+1) (l++[(⟨kk,⟨p1,p6⟩,(⟨p7,p8⟩,⟨0,0⟩),p9,⟨p10,p11⟩,⟨p2,p3⟩,⟨p4,p5⟩⟩:api_Echo)]) (by omega) (by omega) (by omega) (by simp;omega) (by
      intro e he;rcases List.mem_append.1 he with he|he
      ·exact h8 e he
      ·rw [List.mem_singleton] at he;subst he;exact hok)
     exact ⟨row,q1,q2,by rw [show k+(m-j)=k+1+(m-((j+1:Nat):Int)) by omega];exact q3⟩
    obtain ⟨x,x1,x2,x3⟩:=Ql h.kinds F (i:=k) (n:=3) (by omega) (by omega);rw [Be (dT (by omega)),x1,sbd,ckb (by omega)]
    by_cases c1:1+x=1
    ·obtain ⟨w,w1,w2,w3⟩:=Ql h.wide F (i:=k) (n:=40) (by omega) (by omega);rw [Be (eqT c1),w1,sbd];refine k6 _ _ _ _ _ _ _ _ _ _ _ _ (.inl ?_);dsimp only [inS,zS,Ae];omega
    ·obtain ⟨a0,b0,c0,d0,e0⟩:=Ue h F (i:=0) (k:=k) (by omega) (by omega);obtain ⟨a1,b1,c1',d1,e1⟩:=Ue h F (i:=1) (k:=k) (by omega) (by omega);obtain ⟨a2,b2,c2,d2,e2⟩:=Ue h F (i:=2) (k:=k) (by omega) (by omega);obtain ⟨a4,b4,c4,d4,e4⟩:=Ue h F (i:=4) (k:=k) (by omega) (by omega);obtain ⟨a5,b5,c5,d5,e5⟩:=Ue h F (i:=5) (k:=k) (by omega) (by omega);obtain ⟨w,w1,w2,w3⟩:=Ql h.low F (i:=k+3) (n:=200) (by omega) (by omega);rw [An (eqF c1),ckb (by omega),b0,sbd,b1,sbd,b2,sbd,w1,sbd,ckb (by omega),ckb (by omega)]
     by_cases c3:1+x=3
     ·rw [Be (eqT c3),b4,sbd,b5,sbd];refine k6 _ _ _ _ _ _ _ _ _ _ _ _ (.inr ?_);dsimp only [inS,zS,trS];omega
     ·rw [An (eqF c3)];refine k6 _ _ _ _ _ _ _ _ _ _ _ _ (.inr ?_);dsimp only [inS,zS,trS];omega
   ·rw [An (dF (by omega))];unfold Hu Ht;rw [show apd 24 st [l]=some (st++[l]) by unfold apd;rw [if_pos (by simp;omega)],sbd,ckb (by omega)];exact ⟨l,by omega,h8,by rw [show k+(m-j)=k by omega]⟩
 have l2:∀(n j:Nat) (k:Int) (st:List (List api_Echo)),4*r+1≤n+j→j≤4*r→k=j*m→st.length=j→(∀l∈st,l.length=m∧∀e∈l,okE e) →
   ∃s,Ck F a r m a.Tilt (4*r:Nat) n st k j=some s∧Okw s r m:=by
  intro n
  induction n with
  | zero=>intro j k st h1 h2;omega
  | succ n ih =>
   intro j k st h4 h5 h6 h7 h8;show ∃s,G7 F a r m a.Tilt (4*r:Nat) (Ck F a r m a.Tilt (4*r:Nat) n) st k j=some s∧_;unfold G7
   by_cases c:j<4*r
   ·have hk:k+m≤48:=by
     have:=Nat.mul_le_mul (show j+1≤12 by omega) (show m≤4 by omega);rw [h6,←Int.natCast_mul];rw [Nat.add_mul] at this;omega
    have hk0:0≤k:=by rw [h6,←Int.natCast_mul];omega
    obtain ⟨row,q1,q2,q3⟩:=l5 st j (Ck F a r m a.Tilt (4*r:Nat) n) (by omega) (by omega) F 0 k [] (by omega) (by omega) (by omega) rfl (by simp);rw [Be (dT (by omega)),show Cl F a m st j (Ck F a r m a.Tilt (4*r:Nat) n) F k 0 []=_ from q3];refine ih (j+1) _ (st++[row]) (by omega) (by omega) ?_ (by simp;omega) (fun l hl=>?_)
    ·rw [h6,Int.natCast_add,Int.add_mul];omega
    ·rcases List.mem_append.1 hl with hl|hl
     ·exact h8 l hl
     ·rw [List.mem_singleton] at hl;subst hl;exact ⟨q1,q2⟩
   ·rw [An (dF (by omega))];exact ⟨_,rfl,⟨rfl,by omega,by omega,rfl,by dsimp only;omega,by dsimp only;omega,h8⟩⟩
 unfold Jg;rw [ckb (by omega),Vh h1.1 (by omega),ckb (by omega),ckb (by omega),Vh h2.1 (by omega),ckb (by omega),ckb (by omega),ckb (by omega),hm2,hr2];rw [show 4*(r:Int)=((4*r:Nat):Int) by omega];exact l2 F 0 0 [] (by omega) (by omega) (by simp) rfl (by simp)
end Go.Proofs.YtkjnafecmjakcaaGreatDoor
namespace Go.Proofs.YtkjnafecmjakcaaGreatDoor
open Go Go.RowKit Go.Eng
set_option maxRecDepth 10000
set_option linter.unusedVariables false
set_option linter.unusedSimpArgs false
end Go.Proofs.YtkjnafecmjakcaaGreatDoor
namespace Go.Proofs.YtkjnafecmjakcaaGreatDoor
open Go Go.RowKit Go.Eng
set_option maxRecDepth 10000
set_option linter.unusedVariables false
set_option linter.unusedSimpArgs false
theorem V3 {x y:Bool} (h1:x=false) (h2:y=false):(bif x then true else y)=false:=by rw [h1,h2];rfl
section
variable {f:sift_Node→Option sift_Node} {p u v u' v':sift_Node} {n:Nat}
end
section
variable {f:sift_Node→Option Bool} {p u v:sift_Node} {n:Nat}
end
section
variable {f:sift_Node→sift_Node→Option Bool} {p u v:sift_Node} {n:Nat}
end
end Go.Proofs.YtkjnafecmjakcaaGreatDoor
namespace Go.Proofs.YtkjnafecmjakcaaGreatDoor
open Go Go.RowKit Go.Eng
set_option maxRecDepth 10000
set_option linter.unusedVariables false
set_option linter.unusedSimpArgs false
theorem Zu:Nh 4000=some true:=by kernel_rfl
theorem A5k (k:Int):∀(fs:List (Int→Int)) (j:Int) (l:List Int),(jv k fs j l).Doubts.length≤l.length+fs.length:=by
 intro fs
 induction fs with
 | nil=>intro j l;simp [jv]
 | cons f fs ih =>
  intro j l;rw [jv,List.length_cons]
  split
  ·dsimp only;omega
  ·split
   ·have:=ih (j+1) (l++[j]);rw [List.length_append,List.length_singleton] at this;omega
   ·have:=ih (j+1) l;omega
theorem Vq {l:List Int} (h:∀y∈l,0≤y∧y≤255):byts l:=fun y hy=>by have:=h y hy;omega
theorem A0i {n:Int} (h:0≤n∧n≤255):0≤n∧n<256:=by omega
theorem A57 {a:law04_Air} (h:(0≤a.Rose∧a.Rose≤255)∧(0≤a.Gates∧a.Gates≤255)∧(0≤a.Tilt∧a.Tilt≤255)∧(∀y∈a.Kinds,0≤y∧y≤255)∧(∀y∈a.Low,0≤y∧y≤255)∧(∀y∈a.Wide,0≤y∧y≤255)):AirIn a :=
 ⟨A0i h.1,A0i h.2.1,A0i h.2.2.1,Vq h.2.2.2.1,Vq h.2.2.2.2.1,Vq h.2.2.2.2.2⟩
end Go.Proofs.YtkjnafecmjakcaaGreatDoor
namespace Go.Proofs.YtkjnafecmjakcaaGreatDoor
open Go Go.RowKit Go.Eng
set_option maxRecDepth 10000
set_option linter.unusedVariables false
set_option linter.unusedSimpArgs false
end Go.Proofs.YtkjnafecmjakcaaGreatDoor
namespace Go.Proofs.YtkjnafecmjakcaaGreatDoor
open Go Go.RowKit Go.Eng
set_option maxRecDepth 10000
set_option linter.unusedVariables false
set_option linter.unusedSimpArgs false
theorem A3s (s:api_Sweep) (N:Nat):Inv s N ⟨s,N,[],[]⟩:=⟨rfl,rfl,(fun t l _ h=>by cases h),(fun t l _ h=>by cases h)⟩
section
variable {s:api_Sweep} {R m:Nat} {t:T} {F:Nat} {a i:Int}
theorem A07 (ha:0≤a∧a<R) (hi:0≤i∧i<m):0≤a*m+i∧a*m+i<(R*m:Nat):=by
 have:=A2f ha.1 ha.2 hi.1 hi.2;rw [Int.natCast_mul];exact this
theorem A3a (h:Swp s R m) (hc:Cs F s=some 0) (ht:okT true t) (h1:t.size≤300) (h2:t.depth≤12) (hF:4000≤F) (ha:0≤a∧a<R) (hi:0≤i∧i<m) :
  Mz F t.node s a i=some ((t.sem s (a*m+i)).1,0):=by
 have hN:=h.N1;have hR:=h.R4;have hm:=h.m1;have hg:=A07 ha hi;have hk:=ht.kind.1;have ham:0≤a*m:=Int.mul_nonneg ha.1 (by omega);obtain ⟨d',q1,-⟩:=(A0d h t F ⟨s,(R*m:Nat),[],[]⟩ (by omega) (by omega) (A3s s _)).1 ht;unfold Mz Lp Kz;rw [Vy t F 300 (by omega) (by omega) (by omega),sbd,An (dF (by omega)),A00 t F (by have:=t.depth_le;omega) (by omega),sbd,An (dF (by omega)),hk,gdT (g:=(!true)==false&&true) rfl,Xd t true F ht (by omega),sbd,An (c:=bif !true then true else !true) rfl,hc,sbd,An (neF rfl),h.hR,h.hm,
  An (V3 (V3 (dF (by split<;>omega)) (dF (by omega))) (dF (by omega))),ckb (by rw [←Int.natCast_mul];omega),sbd,sbd]
 unfold exc;dsimp only;rw [An (neF rfl),ckb (by omega),ckb (by omega)];rw [show ((R:Int)*(m:Int))=((R*m:Nat):Int) from (Int.natCast_mul ..).symm];show (Cz F ⟨s,(R*m:Nat),[],[]⟩ t.node).bind _=_;rw [q1,sbd,Rl hg]
end
end Go.Proofs.YtkjnafecmjakcaaGreatDoor
namespace Go.Proofs.YtkjnafecmjakcaaGreatDoor
open Go Go.RowKit Go.Eng
set_option maxRecDepth 10000
set_option linter.unusedVariables false
set_option linter.unusedSimpArgs false
end Go.Proofs.YtkjnafecmjakcaaGreatDoor
namespace Go.Proofs.YtkjnafecmjakcaaGreatDoor
open Go Go.RowKit Go.Eng
set_option maxRecDepth 10000
set_option linter.unusedVariables false
set_option linter.unusedSimpArgs false
end Go.Proofs.YtkjnafecmjakcaaGreatDoor
namespace Go.Proofs.YtkjnafecmjakcaaGreatDoor
open Go Go.RowKit Go.Eng
set_option maxRecDepth 10000
set_option linter.unusedVariables false
set_option linter.unusedSimpArgs false
def Nr (R m k o:Int) (x:Int×Int):Prop:=k%m-x.2≤o%m∧o%m≤k%m+x.2∧∃d,-x.1≤d∧d≤x.1∧(k/m+d)%R=o/m
theorem Nr.trans {R m k o p:Int} {x y:Int×Int} (h:Nr R m k o x) (h':Nr R m o p y):Nr R m k p (y.1+x.1,y.2+x.2):=by
 obtain ⟨a1,a2,d,d1,d2,d3⟩:=h;obtain ⟨b1,b2,e,e1,e2,e3⟩:=h';refine ⟨by dsimp only;omega,by dsimp only;omega,d+e,by dsimp only;omega,by dsimp only;omega,?_⟩;rw [←d3,Int.emod_add_emod] at e3;rw [←e3];congr 1;omega
theorem Nr.mono {R m k o:Int} {x y:Int×Int} (h:Nr R m k o x) (h1:x.1≤y.1) (h2:x.2≤y.2):Nr R m k o y:=by
 obtain ⟨a1,a2,d,d1,d2,d3⟩:=h;exact ⟨by omega,by omega,d,by omega,by omega,d3⟩
end Go.Proofs.YtkjnafecmjakcaaGreatDoor
namespace Go.Proofs.YtkjnafecmjakcaaGreatDoor
open Go Go.RowKit Go.Eng
set_option maxRecDepth 10000
set_option linter.unusedVariables false
set_option linter.unusedSimpArgs false
end Go.Proofs.YtkjnafecmjakcaaGreatDoor
namespace Go.Proofs.YtkjnafecmjakcaaGreatDoor
open Go Go.RowKit Go.Eng
set_option maxRecDepth 10000
set_option linter.unusedVariables false
set_option linter.unusedSimpArgs false
theorem S3 {s:api_Sweep} {R m:Nat} {L:List (ByteArray×T)} {b:Nat} (hb:b<R):(P1 s R m L)[b]? = some ((List.range m).map fun j=>jv ((b*m+j:Nat):Int) (Gp s L) 0 []):=by
 simp [P1,hb]
theorem A2c (s:api_Sweep) (R m:Nat) (L:List (ByteArray×T)):(P1 s R m L).length=R:=by simp [P1]
end Go.Proofs.YtkjnafecmjakcaaGreatDoor
namespace Go.Proofs.YtkjnafecmjakcaaGreatDoor
open Go Go.RowKit Go.Eng
set_option maxRecDepth 10000
set_option linter.unusedVariables false
set_option linter.unusedSimpArgs false
theorem A1m {l:List Int} {x:Int} (hl:l.length≤1000) {F:Nat} (hF:1001≤F):Pt F l x=some (decide (x∈l)):=by
 have go:∀(n j:Nat),l.length+1≤n+j→j≤l.length→(∀(i:Nat),i<j→l[i]?≠some x)→K6 l x n j=some (decide (x∈l)):=by
  intro n
  induction n with
  | zero=>intro j h1 h2;omega
  | succ n ih =>
   intro j h1 h2 h3;show K5 l x _ j=_;unfold K5
   by_cases hj:j<l.length
   ·have hx:=List.getElem?_eq_getElem hj;rw [Be (dT (by omega)),D2 j _ rfl hx]
    by_cases e:l[j]=x
    ·rw [Be (eqT e),dT (show x∈l from e▸List.getElem_mem hj)]
    ·rw [An (eqF e),ckb (by omega)];refine ih (j+1) (by omega) (by omega) fun i hi=>?_
     by_cases c:i=j
     ·subst c;rw [hx];exact fun h=>e (Option.some.inj h)
     ·exact h3 i (by omega)
   ·rw [An (dF (by omega))];have:¬x∈l:=fun h=>by
     obtain ⟨i,hi,e⟩:=List.mem_iff_getElem.1 h;exact h3 i (by omega) (by rw [List.getElem?_eq_getElem hi,e])
    rw [dF this];rfl
 exact go F 0 (by omega) (by omega) (fun i hi=>by omega)
theorem A5l {k:Int}:∀(fs:List (Int→Int)) (j:Int) (l:List Int),∀d∈l,d∈(jv k fs j l).Doubts:=by
 intro fs
 induction fs with
 | nil=>intro j l d h;exact h
 | cons f fs ih =>
  intro j l d h;rw [jv]
  split
  ·exact h
  ·split
   ·exact ih _ _ d (by simp [h])
   ·exact ih _ _ d h
def qe:api_Echo:=⟨1,⟨0,0⟩,(⟨0,0⟩,⟨0,0⟩),0,⟨0,0⟩,⟨0,0⟩,⟨0,0⟩⟩
def clr (V:Int→sift_Verdict) (m b i:Nat) (row:List api_Echo):List api_Echo:=row.mapIdx fun j e=>if j<i∧0≤(V ((b*m+j:Nat):Int)).Rule then qe else e
theorem Qt {V:Int→sift_Verdict} {m b i j:Nat} {row:List api_Echo} {e:api_Echo} (h:row[j]? = some e):(clr V m b i row)[j]? = some (if j<i∧0≤(V ((b*m+j:Nat):Int)).Rule then qe else e):=by
 unfold clr;rw [List.getElem?_mapIdx,h];rfl
theorem Pq {V:Int→sift_Verdict} {m b i:Nat} {row:List api_Echo}:(clr V m b i row).length=row.length:=by simp [clr]
theorem A1v {V:Int→sift_Verdict} {m b:Nat} {row:List api_Echo}:clr V m b 0 row=row:=by
 apply List.ext_getElem?;intro j
 by_cases hj:j<row.length
 ·rw [Qt (List.getElem?_eq_getElem hj),if_neg (by omega),List.getElem?_eq_getElem hj]
 ·rw [List.getElem?_eq_none (by rw [Pq];omega),List.getElem?_eq_none (by omega)]
theorem A1u {V:Int→sift_Verdict} {m b i:Nat} {row:List api_Echo} (hi:i<row.length) (h:¬0≤(V ((b*m+i:Nat):Int)).Rule):clr V m b i row=clr V m b (i+1) row:=by
 apply List.ext_getElem?;intro j
 by_cases hj:j<row.length
 ·rw [Qt (List.getElem?_eq_getElem hj),Qt (List.getElem?_eq_getElem hj)]
  by_cases e:j=i
  ·subst e;rw [if_neg (by omega),if_neg (by omega)]
  ·congr 1
   by_cases c:j<i
   ·simp only [c,show j<i+1 by omega]
   ·simp only [c,show ¬j<i+1 by omega]
 ·rw [List.getElem?_eq_none (by rw [Pq];omega),List.getElem?_eq_none (by rw [Pq];omega)]
theorem A3g {V:Int→sift_Verdict} {m b i:Nat} {row:List api_Echo} (hi:i<row.length) (h:0≤(V ((b*m+i:Nat):Int)).Rule):(clr V m b i row).set i qe=clr V m b (i+1) row:=by
 apply List.ext_getElem?;intro j
 by_cases hj:j<row.length
 ·rw [Qt (V:=V) (m:=m) (b:=b) (i:=i+1) (List.getElem?_eq_getElem hj)]
  by_cases e:j=i
  ·subst e;rw [List.getElem?_set_self (by rw [Pq];omega),if_pos ⟨by omega,h⟩]
  ·rw [List.getElem?_set_ne (by omega),Qt (List.getElem?_eq_getElem hj)]
   congr 1
   by_cases c:j<i
   ·simp only [c,show j<i+1 by omega]
   ·simp only [c,show ¬j<i+1 by omega]
 ·rw [List.getElem?_eq_none (by rw [List.length_set,Pq];omega),List.getElem?_eq_none (by rw [Pq];omega)]
theorem A30 {α:Type} {l:List α} {a:Nat} {x:α} (h:l[a]? = some x):l.set a x=l:=by
 apply List.ext_getElem?;intro j
 by_cases e:j=a
 ·subst e;rw [List.getElem?_set_self (List.getElem?_eq_some_iff.1 h).1,h]
 ·rw [List.getElem?_set_ne (by omega)]
def Qh (s:api_Sweep) (m:Nat) (L:List (ByteArray×T)):List (List api_Echo):=s.Rays.mapIdx fun b row=>clr (fun k=>jv k (Gp s L) 0 []) m b m row
theorem A1s {s:api_Sweep} {R m:Nat} {L:List (ByteArray×T)} (h:Swp s R m) (hL:GoodR L) {F:Nat} (hF:3000≤F) (hs:Cs F s=some 0) :
  Pj F (rl L) s=some (⟨s.Site,s.Tilt,s.Time,Qh s m L⟩,0):=by
 have hm:=h.m1;have hR:=h.R4;have hN:=h.N1;have hlen:=hL.len;have hRl:=h.hR;generalize hV:(fun k=>jv k (Gp s L) 0 [])=V;have l4:∀(a:Nat) (ha:a<R) (row:List api_Echo) (hrow:row.length=m) (k2:Int→List (List api_Echo)→Option (api_Sweep×Int)) (n i:Nat) (l:List (List api_Echo)),m+1≤n+i→i≤m→l.length=R→l[a]? = some (clr V m a i row) →
   Jo (P1 s R m L,0) a k2 row n i l=k2 ((a:Int)+1) (l.set a (clr V m a m row)):=by
  intro a ha row hrow k2 n
  induction n with
  | zero=>intro i l h1 h2;omega
  | succ n ih =>
   intro i l h1 h2 h3 h4;show Le (P1 s R m L,0) a k2 row _ i l=_;unfold Le Lf
   by_cases hi:i<m
   ·have g1:=S3 (s:=s) (m:=m) (L:=L) ha;have g2:((List.range m).map fun j=>jv ((a*m+j:Nat):Int) (Gp s L) 0 [])[i]? = some (V ((a*m+i:Nat):Int)):=by rw [←hV];simp [hi]
    have g3:=Qt (V:=V) (m:=m) (b:=a) (i:=i) (List.getElem?_eq_getElem (l:=row) (i:=i) (by omega));rw [Be (dT (by omega)),D2 a _ rfl g1,D2 i _ rfl g2]
    by_cases c:0≤(V ((a*m+i:Nat):Int)).Rule
    ·rw [Be (dT (by omega)),D2 a _ rfl h4,D2 i _ rfl g3,
      show Hp (clr V m a i row) (i:Int) (api_Echo.mk 1 (api_Span.mk 0 0) ((api_Span.mk 0 0),(api_Span.mk 0 0)) 0 (api_Span.mk 0 0) (api_Span.mk 0 0) (api_Span.mk 0 0))=some (clr V m a (i+1) row) by
       unfold Hp;rw [if_pos (by rw [Pq];omega),Int.toNat_natCast];exact congrArg some (A3g (by omega) c),sbd,
      show Hp l (a:Int) (clr V m a (i+1) row)=some (l.set a (clr V m a (i+1) row)) by unfold Hp;rw [if_pos (by omega),Int.toNat_natCast],sbd,ckb (by omega)]
     have:=ih (i+1) (l.set a (clr V m a (i+1) row)) (by omega) (by omega) (by simp [h3]) (List.getElem?_set_self (by omega));rw [List.set_set] at this;exact this
    ·rw [An (dF (by omega)),ckb (by omega)];exact ih (i+1) l (by omega) (by omega) h3 (by rw [h4,A1u (by omega) c])
   ·rw [An (dF (by omega))];have e:i=m:=by omega
    subst e;unfold N8;rw [ckb (by omega),A30 h4]
 have l2:∀(n a:Nat) (l:List (List api_Echo)),R+1≤n+a→a≤R→l.length=R→(∀(b:Nat) row,b<a→s.Rays[b]? = some row→l[b]? = some (clr V m b m row)) →
   Jn F s (P1 s R m L,0) n a l=some (⟨s.Site,s.Tilt,s.Time,Qh s m L⟩,0):=by
  intro n
  induction n with
  | zero=>intro a l h1 h2;omega
  | succ n ih =>
   intro a l h1 h2 h3 h4;show Ld F s (P1 s R m L,0) _ a l=_;unfold Ld
   by_cases ha:a<R
   ·have hrow:=List.getElem?_eq_getElem (l:=s.Rays) (i:=a) (by omega);have hrl:=h.rows _ (List.getElem_mem (l:=s.Rays) (n:=a) (by omega));generalize s.Rays[a]=row at hrow hrl;have hl:=List.getElem?_eq_getElem (l:=l) (i:=a) (by omega);rw [Be (dT (by omega)),D2 a _ rfl hrow];unfold C2;rw [show apd 112 ([]:List api_Echo) row=some row by unfold apd;rw [if_pos (by simp;omega)];rfl,sbd,sbd,D2 a _ rfl hl,
     show Hp l (a:Int) row=some (l.set a row) by unfold Hp;rw [if_pos (by omega),Int.toNat_natCast],sbd,
     show Jo (P1 s R m L,0) a (Jn F s (P1 s R m L,0) n) row F 0 (l.set a row)=_ from l4 a ha row hrl _ F 0 (l.set a row) (by omega) (by omega) (by simp [h3]) (by rw [A1v];exact List.getElem?_set_self (by omega)),List.set_set]
    refine ih (a+1) _ (by omega) (by omega) (by simp [h3]) fun b row' hb hr=>?_
    by_cases e:b=a
    ·subst e;rw [hrow] at hr
     cases hr
     exact List.getElem?_set_self (by omega)
    ·rw [List.getElem?_set_ne (by omega)];exact h4 b row' (by omega) hr
   ·rw [An (dF (by omega))];unfold N7;have:l=Qh s m L:=by
     apply List.ext_getElem?;intro b
     by_cases hb:b<R
     ·have hr:=List.getElem?_eq_getElem (l:=s.Rays) (i:=b) (by omega);rw [h4 b _ (by omega) hr];unfold Qh;rw [List.getElem?_mapIdx,hr,hV];rfl
     ·rw [List.getElem?_eq_none (by omega),List.getElem?_eq_none (by simp [Qh];omega)]
    rw [this]
 unfold Pj;rw [W5 h hL hF hs,sbd];dsimp only;rw [An (neF rfl),hRl,show mkI 24 (R:Int) ([]:List api_Echo)=some (List.replicate R []) by unfold mkI;rw [if_pos (by simp only [Int.toNat_natCast];omega),Int.toNat_natCast],sbd];exact l2 F 0 _ (by omega) (by omega) (by simp) (fun b row hb=>by omega)
end Go.Proofs.YtkjnafecmjakcaaGreatDoor
namespace Go.Proofs.YtkjnafecmjakcaaGreatDoor
open Go Go.RowKit Go.Eng
set_option maxRecDepth 10000
set_option linter.unusedVariables false
set_option linter.unusedSimpArgs false
end Go.Proofs.YtkjnafecmjakcaaGreatDoor
namespace Go.Proofs.YtkjnafecmjakcaaGreatDoor
open Go Go.RowKit Go.Eng
set_option maxRecDepth 10000
set_option linter.unusedVariables false
set_option linter.unusedSimpArgs false
theorem GoodR.take {L:List (ByteArray×T)} (h:GoodR L) (n:Nat):GoodR (L.take n):=by
 have hs:(L.map (·.2.size)).sum=((L.take n).map (·.2.size)).sum+((L.drop n).map (·.2.size)).sum:=by
  rw [←List.sum_append,←List.map_append,List.take_append_drop]
 refine ⟨by have:=h.len;simp;omega,by have:=h.size;omega,fun p hp=>h.names p (List.mem_of_mem_take hp),?_,fun p hp=>h.trees p (List.mem_of_mem_take hp)⟩;intro i j p q h1 h2 hij;rw [List.getElem?_take] at h1 h2
 split at h1
 ·split at h2
  ·exact h.distinct i j p q h1 h2 hij
  ·cases h2
 ·cases h1
theorem A48 {L:List (ByteArray×T)} {c:Nat} (hc:c+1≤L.length):Qu (rl L) 0 ((c:Int)+1)=some (rl (L.take (c+1))):=by
 unfold Qu;rw [if_pos (by rw [Pi];omega),show ((c:Int)+1).toNat=c+1 by omega];simp [rl,List.map_take]
theorem A3w {s:api_Sweep} {k:Int}:∀(L:List (ByteArray×T)) (j0:Int) (l:List Int),(jv k (Gp s L) j0 l).Rule=-1∨∃c:Nat,c<L.length∧(jv k (Gp s L) j0 l).Rule=j0+c∧(jv k (Gp s (L.take (c+1))) j0 l).Rule=j0+c:=by
 intro L
 induction L with
 | nil=>intro j0 l;exact .inl rfl
 | cons p L ih =>
  intro j0 l;have key:∀M,jv k (Gp s (p::M)) j0 l=if (p.2.sem s k).1=1 then ⟨j0,l⟩ else if (p.2.sem s k).1=2 then jv k (Gp s M) (j0+1) (l++[j0]) else jv k (Gp s M) (j0+1) l:=fun M=>rfl;rw [key]
  by_cases c1:(p.2.sem s k).1=1
  ·rw [if_pos c1];refine .inr ⟨0,by simp,by simp,?_⟩;rw [show (p::L).take (0+1)=p::[] by simp,key,if_pos c1];simp
  ·rw [if_neg c1];have go:∀l',(jv k (Gp s L) (j0+1) l').Rule=-1∨∃c:Nat,c<(p::L).length∧(jv k (Gp s L) (j0+1) l').Rule=j0+c∧(jv k (Gp s (L.take c)) (j0+1) l').Rule=j0+c:=by
    intro l';rcases ih (j0+1) l' with h|⟨c,h1,h2,h3⟩
    ·exact .inl h
    ·exact .inr ⟨c+1,by simp;omega,by omega,by omega⟩
   by_cases c2:(p.2.sem s k).1=2
   ·rw [if_pos c2];rcases go (l++[j0]) with h|⟨c,h1,h2,h3⟩
    ·exact .inl h
    ·refine .inr ⟨c,h1,h2,?_⟩;rw [List.take_succ_cons,key,if_neg c1,if_pos c2];exact h3
   ·rw [if_neg c2];rcases go l with h|⟨c,h1,h2,h3⟩
    ·exact .inl h
    ·refine .inr ⟨c,h1,h2,?_⟩;rw [List.take_succ_cons,key,if_neg c1,if_neg c2];exact h3
theorem Y3 {s:api_Sweep} {m:Nat} {L:List (ByteArray×T)} {b:Nat} {row:List api_Echo} (h:s.Rays[b]? = some row):(Qh s m L)[b]? = some (clr (fun k=>jv k (Gp s L) 0 []) m b m row):=by
 unfold Qh;rw [List.getElem?_mapIdx,h];rfl
theorem A1t (s:api_Sweep) (m:Nat) (L:List (ByteArray×T)):(Qh s m L).length=s.Rays.length:=by simp [Qh]
theorem eqQ:(((qe.Kind:Int)==1)&&((((qe.Power.Lo:Int)==0)&&(((qe.Power.Hi:Int)==0)&&true))&&(((((qe.Steps.1.Lo:Int)==0)&&(((qe.Steps.1.Hi:Int)==0)&&true))&&((((qe.Steps.2.Lo:Int)==0)&&(((qe.Steps.2.Hi:Int)==0)&&true))&&true))&&(((qe.Spread:Int)==0)&&((((qe.Ratio.Lo:Int)==0)&&(((qe.Ratio.Hi:Int)==0)&&true))&&((((qe.Match.Lo:Int)==0)&&(((qe.Match.Hi:Int)==0)&&true))&&((((qe.Turn.Lo:Int)==0)&&(((qe.Turn.Hi:Int)==0)&&true))&&true)))))))=true:=rfl
theorem A3p (e:api_Echo):(((e.Kind:Int)==e.Kind)&&((((e.Power.Lo:Int)==e.Power.Lo)&&(((e.Power.Hi:Int)==e.Power.Hi)&&true))&&(((((e.Steps.1.Lo:Int)==e.Steps.1.Lo)&&(((e.Steps.1.Hi:Int)==e.Steps.1.Hi)&&true))&&((((e.Steps.2.Lo:Int)==e.Steps.2.Lo)&&(((e.Steps.2.Hi:Int)==e.Steps.2.Hi)&&true))&&true))&&(((e.Spread:Int)==e.Spread)&&((((e.Ratio.Lo:Int)==e.Ratio.Lo)&&(((e.Ratio.Hi:Int)==e.Ratio.Hi)&&true))&&((((e.Match.Lo:Int)==e.Match.Lo)&&(((e.Match.Hi:Int)==e.Match.Hi)&&true))&&((((e.Turn.Lo:Int)==e.Turn.Lo)&&(((e.Turn.Hi:Int)==e.Turn.Hi)&&true))&&true)))))))=true:=by
 simp only [beq_self_eq_true,Bool.and_self]
theorem A3q (e:api_Site):((e.Name==e.Name)&&(((e.X:Int)==e.X)&&(((e.Y:Int)==e.Y)&&(((e.Z:Int)==e.Z)&&(((e.Rose:Int)==e.Rose)&&(((e.Gates:Int)==e.Gates)&&(((e.Step:Int)==e.Step)&&(((e.Width:Int)==e.Width)&&true))))))))=true:=by
 have h:(e.Name==e.Name)=true:=by
  generalize e.Name=b;show (b.data==b.data)=true;exact beq_self_eq_true _
 rw [h];simp only [beq_self_eq_true,Bool.and_self]
theorem Vt {p:List Int} {n:Int} {a:law04_Air} (hp:byts p) (hn:0≤n∧n<256) (ha:AirIn a):Gs 4000 p n a=some true:=by
 generalize hF:4000=F;have hF2:4000≤F:=by omega
 have hwk:Nh F=some true:=by rw [←hF];exact Zu
 obtain ⟨L,p',q1,q2,-⟩:=A2w hp hn true (F:=F) (by omega);obtain ⟨s,q3,q4⟩:=A58 ha (F:=F) (by omega);generalize (1+a.Rose%3).toNat=r at *;generalize (1+a.Gates%4).toNat=m at *;have hok:∀p∈L,okT true p.2:=fun p hp=>(q2.trees p hp).ok;have hgd:=q2.good;have hr1:=q4.r1;have hm1:=q4.m1;have hlen:=q4.len;have hll:=q2.len;have hc:=q4.check (F:=F) (by omega);have hsm:∀(M:List (ByteArray×T)) (k:Int),M.length≤4→(jv k (Gp s M) 0 []).Doubts.length≤1000:=fun M k hM=>by have:=A5k k (Gp s M) 0 [];simp [Gp] at this ⊢;omega
 have k6:∀(b i:Nat),b<4*r→i<m→∀(k4:Int→Option Bool) (row:List api_Echo) (e:api_Echo),s.Rays[b]? = some row→row[i]? = some e →
   D5 F (rl L,p') s (P1 s (4*r) m L,0) (⟨s.Site,s.Tilt,s.Time,Qh s m L⟩,0) b i k4 e (jv ((b*m+i:Nat):Int) (Gp s L) 0 []).Rule (((jv ((b*m+i:Nat):Int) (Gp s L) 0 []).Doubts.length:Nat):Int)=k4 ((i:Int)+1):=by
  intro b i hb hi k4 row e hrow he;have g1:=S3 (s:=s) (m:=m) (L:=L) hb;have g2:((List.range m).map fun j=>jv ((b*m+j:Nat):Int) (Gp s L) 0 [])[i]? = some (jv ((b*m+i:Nat):Int) (Gp s L) 0 []):=by simp [hi]
  have g3:=Y3 (m:=m) (L:=L) hrow;have g4:=Qt (V:=fun k=>jv k (Gp s L) 0 []) (m:=m) (b:=b) (i:=m) he;have htk:=A3w (s:=s) (k:=((b*m+i:Nat):Int)) L 0 [];unfold D5
  by_cases c:0≤(jv ((b*m+i:Nat):Int) (Gp s L) 0 []).Rule
  ·rcases htk with h|⟨j,h1,h2,h3⟩
   ·omega
   ·have g5:=S3 (s:=s) (m:=m) (L:=L.take (j+1)) hb;have g6:((List.range m).map fun j'=>jv ((b*m+j':Nat):Int) (Gp s (L.take (j+1))) 0 [])[i]? = some (jv ((b*m+i:Nat):Int) (Gp s (L.take (j+1))) 0 []):=by simp [hi]
    rw [Be (dT c)];unfold D6 D4;dsimp only;rw [D2 b _ rfl g1,D2 i _ rfl g2,D2 b _ rfl g1,D2 i _ rfl g2,D2 b _ rfl g3,D2 i _ rfl g4,if_pos ⟨hi,c⟩,eqQ,An (V3 (y:=!true) (V3 (neF rfl) (neF rfl)) rfl),Be (dT c),h2,Int.zero_add,ckb (by omega),A48 (by omega),sbd,W5 q4.swp (hgd.take (j+1)) (by omega) hc,sbd];dsimp only;rw [An (neF rfl),D2 b _ rfl g5,D2 i _ rfl g6,An (neF (by omega)),ckb (by omega)]
  ·have hn:¬(i<m∧0≤(jv ((b*m+i:Nat):Int) (Gp s L) 0 []).Rule):=fun h=>c h.2;rw [An (dF c)];unfold D6 D4;dsimp only;rw [D2 b _ rfl g1,D2 i _ rfl g2,D2 b _ rfl g1,D2 i _ rfl g2,D2 b _ rfl g3,D2 i _ rfl g4,if_neg hn,A3p e,An (V3 (y:=!true) (V3 (neF rfl) (neF rfl)) rfl),An (dF c),ckb (by omega)]
 have l8:∀(b i:Nat),b<4*r→i<m→∀(k4:Int→Option Bool) (row:List api_Echo) (e:api_Echo),s.Rays[b]? = some row→row[i]? = some e→∀(n j:Nat) (l:List Int),L.length+1≤n+j→j≤L.length→l.length≤j →
   jv ((b*m+i:Nat):Int) (Gp s (L.drop j)) j l=jv ((b*m+i:Nat):Int) (Gp s L) 0 [] →
   D8 F (rl L,p') s (P1 s (4*r) m L,0) (⟨s.Site,s.Tilt,s.Time,Qh s m L⟩,0) b i k4 e n j (l.length:Nat)=k4 ((i:Int)+1):=by
  intro b i hb hi k4 row e hrow he n;have hK:=A07 (R:=4*r) (m:=m) (a:=(b:Int)) (i:=(i:Int)) ⟨by omega,by omega⟩ ⟨by omega,by omega⟩;have g1:=S3 (s:=s) (m:=m) (L:=L) hb;have g2:((List.range m).map fun j=>jv ((b*m+j:Nat):Int) (Gp s L) 0 [])[i]? = some (jv ((b*m+i:Nat):Int) (Gp s L) 0 []):=by simp [hi]
  have eK:(b:Int)*m+i=((b*m+i:Nat):Int):=by rw [Int.natCast_add,Int.natCast_mul]
  have k6':=k6 b i hb hi k4 row e hrow he;have hs1:=hsm L ((b*m+i:Nat):Int) hll
  induction n with
  | zero=>intro j l h1 h2;omega
  | succ n ih =>
   intro j l h1 h2 h3 h4;show Et F (rl L,p') s (P1 s (4*r) m L,0) (⟨s.Site,s.Tilt,s.Time,Qh s m L⟩,0) b i k4 e _ j (l.length:Nat)=_;unfold Et Eu;dsimp only;rw [Pi]
   by_cases hj:j<L.length
   ·have hx:=List.getElem?_eq_getElem hj;have hmem:=List.getElem_mem hj;rw [List.drop_eq_getElem_cons hj] at h4;generalize L[j]=q at hx hmem h4;have hsz:=(q2.trees q hmem).size;have hdp:=(q2.trees q hmem).depth;have t0:=A3a (F:=F) (R:=4*r) (m:=m) (a:=(b:Int)) (i:=(i:Int)) q4.swp hc (hok q hmem) (by omega) (by omega) hF2 ⟨by omega,by omega⟩ ⟨by omega,by omega⟩;rw [eK] at t0;rw [Be (dT (by omega)),D2 j _ rfl (Wd hx),show Mz F (rlN q).When s b i=_ from t0,sbd];dsimp only;have h5:jv ((b*m+i:Nat):Int) (Gp s L) 0 []=if (q.2.sem s ((b*m+i:Nat):Int)).1=1 then ⟨(j:Int),l⟩ else if (q.2.sem s ((b*m+i:Nat):Int)).1=2 then jv ((b*m+i:Nat):Int) (Gp s (L.drop (j+1))) ((j:Int)+1) (l++[(j:Int)]) else jv ((b*m+i:Nat):Int) (Gp s (L.drop (j+1))) ((j:Int)+1) l:=h4.symm;generalize (q.2.sem s ((b*m+i:Nat):Int)).1=t at *;rw [An (neF rfl)]
    by_cases c1:t=1
    ·rw [if_pos c1] at h5;rw [h5] at k6';rw [Be (eqT c1)];exact k6'
    ·rw [if_neg c1] at h5;rw [An (eqF c1)]
     by_cases c2:t=2
     ·rw [if_pos c2] at h5;have hmj:(j:Int)∈(jv ((b*m+i:Nat):Int) (Gp s L) 0 []).Doubts:=by
       rw [h5];exact A5l _ _ _ _ (by simp)
      rw [Be (eqT c2),ckb (by omega),D2 b _ rfl g1,D2 i _ rfl g2,A1m hs1 (by omega),sbd,dT hmj,An (c:=!true) rfl,ckb (by omega)];have:=ih (j+1) (l++[(j:Int)]) (by omega) (by omega) (by simp;omega) h5.symm;rw [List.length_append,List.length_singleton] at this;exact this
     ·rw [if_neg c2] at h5;rw [An (eqF c2),ckb (by omega)];exact ih (j+1) l (by omega) (by omega) (by omega) h5.symm
   ·rw [An (dF (by omega))];rw [List.drop_eq_nil_of_le (by omega)] at h4;have h5:jv ((b*m+i:Nat):Int) (Gp s L) 0 []=⟨-1,l⟩:=h4.symm;rw [h5] at k6';exact k6'
 have l4:∀(b:Nat),b<4*r→∀(k2:Int→Option Bool) (row:List api_Echo),s.Rays[b]? = some row→row.length=m→∀(n i:Nat),m+1≤n+i→i≤m →
   Cm F (rl L,p') s (P1 s (4*r) m L,0) (⟨s.Site,s.Tilt,s.Time,Qh s m L⟩,0) b k2 row n i=k2 ((b:Int)+1):=by
  intro b hb k2 row hrow hrl n
  induction n with
  | zero=>intro i h1 h2;omega
  | succ n ih =>
   intro i h1 h2;show Es F (rl L,p') s (P1 s (4*r) m L,0) (⟨s.Site,s.Tilt,s.Time,Qh s m L⟩,0) b k2 row _ i=_;unfold Es
   by_cases hi:i<m
   ·have he:=List.getElem?_eq_getElem (l:=row) (i:=i) (by omega);rw [Be (dT (by omega)),D2 i _ rfl he,show D8 F (rl L,p') s (P1 s (4*r) m L,0) (⟨s.Site,s.Tilt,s.Time,Qh s m L⟩,0) b i (Cm F (rl L,p') s (P1 s (4*r) m L,0) (⟨s.Site,s.Tilt,s.Time,Qh s m L⟩,0) b k2 row n) _ F 0 0=_ from l8 b i hb hi _ row _ hrow he F 0 [] (by omega) (by omega) (by simp) rfl];exact ih (i+1) (by omega) (by omega)
   ·rw [An (dF (by omega))];unfold Gu;rw [ckb (by omega)]
 have l2:∀(n b:Nat),4*r+1≤n+b→b≤4*r→D7 F (rl L,p') s (P1 s (4*r) m L,0) (⟨s.Site,s.Tilt,s.Time,Qh s m L⟩,0) n b=some true:=by
  intro n
  induction n with
  | zero=>intro b h1 h2;omega
  | succ n ih =>
   intro b h1 h2;show Er F (rl L,p') s (P1 s (4*r) m L,0) (⟨s.Site,s.Tilt,s.Time,Qh s m L⟩,0) _ b=_;unfold Er;dsimp only;rw [hlen]
   by_cases hb:b<4*r
   ·have hrow:=List.getElem?_eq_getElem (l:=s.Rays) (i:=b) (by omega);have hrl:=(q4.rows _ (List.getElem_mem (l:=s.Rays) (n:=b) (by omega))).1;rw [Be (dT (by omega)),D2 b _ rfl (Y3 hrow),D2 b _ rfl hrow,D2 b _ rfl (S3 hb),D2 b _ rfl hrow,An (V3 (neF (by rw [Pq])) (neF (by simp [hrl]))),D2 b _ rfl hrow,show Cm F (rl L,p') s (P1 s (4*r) m L,0) (⟨s.Site,s.Tilt,s.Time,Qh s m L⟩,0) b (D7 F (rl L,p') s (P1 s (4*r) m L,0) (⟨s.Site,s.Tilt,s.Time,Qh s m L⟩,0) n) _ F 0=_ from l4 b hb _ _ hrow hrl F 0 (by omega) (by omega)];exact ih (b+1) (by omega) (by omega)
   ·rw [An (dF (by omega))];unfold Gt;rw [hwk];rfl
 unfold Gs;rw [q1,sbd,q3,sbd];dsimp only;rw [W5 q4.swp hgd (by omega) hc,sbd,A1s q4.swp hgd (by omega) hc,sbd];dsimp only;rw [A2c,A1t,A3q,An (V3 (V3 (V3 (V3 (V3 (y:=!true) (V3 (neF rfl) (neF rfl)) rfl) (neF rfl)) (neF rfl)) (neF rfl)) (neF (by omega)))];exact l2 F 0 (by omega) (by omega)
end Go.Proofs.YtkjnafecmjakcaaGreatDoor
