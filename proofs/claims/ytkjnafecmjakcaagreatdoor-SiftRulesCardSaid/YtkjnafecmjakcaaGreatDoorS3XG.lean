import Derived.Test.YtkjnafecmjakcaaGreatDoorS3XD
import Derived.Lib.DecodeN
set_option linter.unusedVariables false
set_option linter.unusedSimpArgs false
set_option linter.unusedSectionVars false
namespace Go.Proofs.YtkjnafecmjakcaaGreatDoor
open Go Go.RowKit Go.Eng
set_option maxRecDepth 10000
set_option linter.unusedVariables false
set_option linter.unusedSimpArgs false
theorem ckb {β:Type} {x:Int} {f:Int→Option β} (h:-9000000000000000000≤x∧x≤9000000000000000000):(ck x).bind f=f x:=by
 unfold ck;rw [if_pos (by omega)];rfl
theorem gdT {α:Type} {g:Bool} {o:Option α} {d:α} (h:g=true):gd g o d=o:=by subst h;rfl
theorem gdF {α:Type} {g:Bool} {o:Option α} {d:α} (h:g=false):gd g o d=some d:=by subst h;rfl
theorem At {α:Type} {c:Bool} {x y:α} (h:c=true):(bif c then x else y)=x:=by rw [h];rfl
theorem Aj {α:Type} {c:Bool} {x y:α} (h:c=false):(bif c then x else y)=y:=by rw [h];rfl
theorem sbd {α β:Type} {x:α} {f:α→Option β}:(some x).bind f=f x:=rfl
theorem dT {p:Prop} [Decidable p] (h:p):decide p=true:=decide_eq_true h
theorem dF {p:Prop} [Decidable p] (h:¬p):decide p=false:=decide_eq_false h
theorem Cz {α β:Type} {l:List α} {i:Int} {f:α→Option β} (n:Nat) (x:α) (hi:i=(n:Int)) (h:l[n]? = some x):(getI l i).bind f=f x:=by
 subst hi;unfold getI;rw [if_pos (by omega),show ((n:Int)).toNat=n by omega,h];rfl
theorem Rm {α β:Type} {x:α} {l:List α} {f:α→Option β}:(getI (x::l) 0).bind f=f x:=Cz 0 x rfl rfl
theorem A1u {α β:Type} {x y:α} {l:List α} {f:α→Option β}:(getI (x::y::l) 1).bind f=f y:=Cz 1 y rfl rfl
inductive T where
 | leaf (op v:Int)
 | un (op r g:Int) (a:T)
 | bin (op:Int) (a b:T)
 deriving DecidableEq,Inhabited
def T.op:T→Int
 | .leaf op _=>op
 | .un op _ _ _=>op
 | .bin op _ _=>op
def T.node:T→sift_Node
 | .leaf op v=>⟨op,v,0,0,[]⟩
 | .un op r g a=>⟨op,0,r,g,[a.node]⟩
 | .bin op a b=>⟨op,0,0,0,[a.node,b.node]⟩
def T.size:T→Nat
 | .leaf _ _=>1
 | .un _ _ _ a=>1+a.size
 | .bin _ a b=>1+a.size+b.size
def T.depth:T→Nat
 | .leaf _ _=>1
 | .un _ _ _ a=>1+a.depth
 | .bin _ a b=>1+max a.depth b.depth
theorem Yp (t:T):t.node.Op=t.op:=by cases t<;>rfl
def okT:Bool→T→Prop
 | true,.leaf op v=>(op=1∨op=2)∧v=0
 | false,.leaf op v=>(op=14∧0≤v∧v≤1000000000)∨(15≤op∧op≤24∧v=0)
 | true,.un op r g a=>((op=3∧r=0∧g=0)∨((op=6∨op=7)∧0≤r∧r≤3∧0≤g∧g≤3))∧okT true a
 | false,.un op r g a=>(op=25∧0≤r∧r≤3∧0≤g∧g≤3)∧okT true a
 | true,.bin op a b=>((op=4∨op=5)∧okT true a∧okT true b)∨(8≤op∧op≤13∧okT false a∧okT false b)
 | false,.bin op a b=>(op=26∨op=27)∧okT false a∧okT false b∧b.op<26
theorem okT.kind:∀{t:T} {k:Bool},okT k t→sift_isCondition t.node=k∧sift_isValue t.node=!k:=by
 intro t k h;have key:∀op:Int,(k=true→1≤op∧op≤13)→(k=false→14≤op∧op≤27)→t.node.Op=op→sift_isCondition t.node=k∧sift_isValue t.node=!k:=by
  intro op h1 h2 h3;unfold sift_isCondition sift_isValue;rw [h3]
  cases k
  ·obtain ⟨a,b⟩:=h2 rfl;refine ⟨?_,?_⟩
   ·by_cases hc:op≥1
    ·rw [At (dT hc)];exact dF (by omega)
    ·rw [Aj (dF hc)]
   ·rw [At (dT (by omega))];exact dT (by omega)
  ·obtain ⟨a,b⟩:=h1 rfl;refine ⟨?_,?_⟩
   ·rw [At (dT (by omega))];exact dT (by omega)
   ·rw [Aj (dF (by omega))];rfl
 cases t with
 | leaf op v=>cases k<;>simp only [okT] at h<;>exact key op (fun e=>by cases e<;>omega) (fun e=>by cases e<;>omega) rfl
 | un op r g a=>cases k<;>simp only [okT] at h<;>exact key op (fun e=>by cases e<;>omega) (fun e=>by cases e<;>omega) rfl
 | bin op a b=>cases k<;>simp only [okT] at h<;>exact key op (fun e=>by cases e<;>omega) (fun e=>by cases e<;>omega) rfl
end Go.Proofs.YtkjnafecmjakcaaGreatDoor
namespace Go.Proofs.YtkjnafecmjakcaaGreatDoor
open Go Go.RowKit Go.Eng
set_option maxRecDepth 10000
set_option linter.unusedVariables false
set_option linter.unusedSimpArgs false
theorem T.size_pos (t:T):1≤t.size:=by cases t<;>simp only [T.size]<;>omega
theorem Vn (F:Nat) (p:sift_Node) (m:Int):Cc (F+1) p m=By (Cc F) p m F 0 1:=rfl
theorem A6y {self_:sift_Node→Int→Option Int} {p:sift_Node} {m x y:Int} {n:Nat}:By self_ p m (n+1) x y=Dn self_ p m (By self_ p m n) x y:=rfl
theorem A06 {self_:sift_Node→Int→Option Int} {p u:sift_Node} {m x y z:Int} {n i:Nat} (hx:x=(i:Int)) (hi:p.Args[i]? = some u) (hl:p.Args.length≤2) (hm:y≤m) (hm2:0≤y∧m≤1000000) (hz:self_ u (m-y)=some z) (hz2:0≤z∧z≤1000000) :
  By self_ p m (n+1) x y=By self_ p m n (x+1) (y+z):=by
 have hlt:=(List.getElem?_eq_some_iff.1 hi).1;rw [A6y,Dn,At (dT (by omega)),Cz i u hx hi,Aj (dF (by omega)),ckb (by omega),hz,sbd,ckb (by omega),ckb (by omega)]
theorem Yf {self_:sift_Node→Int→Option Int} {p:sift_Node} {m x y:Int} {n:Nat} (hx:(p.Args.length:Int)≤x):By self_ p m (n+1) x y=some y:=by
 rw [A6y,Dn,Aj (dF (by omega))];rfl
theorem A07:∀(t:T) (F:Nat) (m:Int),t.size+4≤F→(t.size:Int)≤m→m≤1000000→Cc F t.node m=some (t.size:Int):=by
 intro t
 induction t with
 | leaf op v =>
  intro F m hF h1 h2;obtain ⟨F,rfl⟩:∃G,F=G+2:=⟨F-2,by simp only [T.size] at hF;omega⟩;rw [Vn];exact Yf (Int.le_refl _)
 | un op r g a ih =>
  intro F m hF h1 h2;simp only [T.size] at hF h1;have:=a.size_pos;obtain ⟨F,rfl⟩:∃G,F=G+3:=⟨F-3,by omega⟩;rw [Vn];rw [A06 (p:=(T.un op r g a).node) (x:=0) (y:=1) (i:=0) (u:=a.node) rfl rfl (by simp [T.node]) (by omega) (by omega) (ih (F+2) (m-1) (by omega) (by omega) (by omega)) (by omega),Yf (by simp [T.node])];simp only [T.size];congr 1
 | bin op a b iha ihb =>
  intro F m hF h1 h2;simp only [T.size] at hF h1;have:=a.size_pos;have:=b.size_pos;obtain ⟨F,rfl⟩:∃G,F=G+4:=⟨F-4,by omega⟩;rw [Vn];rw [A06 (p:=(T.bin op a b).node) (x:=0) (y:=1) (i:=0) (u:=a.node) rfl rfl (by simp [T.node]) (by omega) (by omega) (iha (F+3) (m-1) (by omega) (by omega) (by omega)) (by omega),
   A06 (p:=(T.bin op a b).node) (x:=0+1) (i:=1) (u:=b.node) rfl rfl (by simp [T.node]) (by omega) (by omega) (ihb (F+3) (m-(1+a.size)) (by omega) (by omega) (by omega)) (by omega),Yf (by simp [T.node])]
  simp only [T.size];congr 1
theorem A09 (F:Nat) (p:sift_Node):Dk (F+1) p=D0 (Dk F) p F 0 0:=rfl
theorem dpL {self_:sift_Node→Option Int} {p:sift_Node} {x y:Int} {n:Nat}:D0 self_ p (n+1) x y=G0 self_ p (D0 self_ p n) x y:=rfl
theorem A2s {self_:sift_Node→Option Int} {p u:sift_Node} {x y z:Int} {n i:Nat} (hy:y=(i:Int)) (hi:p.Args[i]? = some u) (hl:p.Args.length≤2) (hz:self_ u=some z) :
  D0 self_ p (n+1) x y=D0 self_ p n (if z>x then z else x) (y+1):=by
 have hlt:=(List.getElem?_eq_some_iff.1 hi).1;rw [dpL,G0,At (dT (by omega)),Cz i u hy hi,hz,sbd,ckb (by omega)]
theorem A0a {self_:sift_Node→Option Int} {p:sift_Node} {x y:Int} {n:Nat} (hy:(p.Args.length:Int)≤y) (hx:-9000000000≤x∧x≤9000000000):D0 self_ p (n+1) x y=some (x+1):=by
 rw [dpL,G0,Aj (dF (by omega)),My,ckb (by omega)]
theorem A48:∀(t:T) (F:Nat),t.depth+4≤F→t.depth≤1000000→Dk F t.node=some (t.depth:Int):=by
 intro t
 induction t with
 | leaf op v =>
  intro F hF h1;obtain ⟨F,rfl⟩:∃G,F=G+2:=⟨F-2,by simp only [T.depth] at hF;omega⟩;rw [A09];exact A0a (Int.le_refl _) (by omega)
 | un op r g a ih =>
  intro F hF h1;simp only [T.depth] at hF h1;obtain ⟨F,rfl⟩:∃G,F=G+3:=⟨F-3,by omega⟩;rw [A09];rw [A2s (p:=(T.un op r g a).node) (y:=0) (i:=0) (u:=a.node) rfl rfl (by simp [T.node]) (ih (F+2) (by omega) (by omega)),A0a (by simp [T.node]) (by split<;>omega)];simp only [T.depth];congr 1;split<;>omega
 | bin op a b iha ihb =>
  intro F hF h1;simp only [T.depth] at hF h1;obtain ⟨F,rfl⟩:∃G,F=G+4:=⟨F-4,by omega⟩;rw [A09];rw [A2s (p:=(T.bin op a b).node) (y:=0) (i:=0) (u:=a.node) rfl rfl (by simp [T.node]) (iha (F+3) (by omega) (by omega)),A2s (p:=(T.bin op a b).node) (y:=0+1) (i:=1) (u:=b.node) rfl rfl (by simp [T.node]) (ihb (F+3) (by omega) (by omega)),A0a (by simp [T.node]) (by split<;>split<;>omega)];simp only [T.depth];congr 1;split<;>split<;>omega
structure StL (self_:sift_Node→Option Bool) (p:sift_Node) (k:Bool) (L:Nat→Int→Option Bool):Prop where
 go:∀n (i:Nat) u,p.Args[i]? = some u→p.Args.length≤2→sift_isCondition u=k→sift_isValue u=!k→self_ u=some true→L (n+1) (i:Int)=L n ((i:Int)+1)
 fin:∀n x,(p.Args.length:Int)≤x→p.Op<26→L (n+1) x=some true
 fin2:∀n x u,(p.Args.length:Int)≤x→26≤p.Op→p.Args[1]? = some u→u.Op<26→L (n+1) x=some true
theorem A7z {self_:sift_Node→Option Bool} {p:sift_Node}:StL self_ p true (Gs self_ p):=by
 refine ⟨fun n i u hi hl h1 h2 h3=>?_,fun n x hx ho=>?_,fun n x u hx ho hu hu2=>?_⟩
 ·have hlt:=(List.getElem?_eq_some_iff.1 hi).1;show C4 self_ p _ _=_;rw [C4,At (dT (by omega)),Cz i u rfl hi,h1,gdT (g:=(!true)==false&&true) rfl,h3,sbd,Aj (c:=bif (!true) then true else (!true)) rfl,ckb (by omega)]
 ·show C4 self_ p _ _=_;rw [C4,Aj (dF (by omega)),Kf,At (dT ho)]
 ·show C4 self_ p _ _=_;rw [C4,Aj (dF (by omega)),Kf,Aj (dF (by omega)),Cz (i:=1) 1 u rfl hu,dT hu2]
theorem A80 {self_:sift_Node→Option Bool} {p:sift_Node}:StL self_ p true (Gt self_ p):=by
 refine ⟨fun n i u hi hl h1 h2 h3=>?_,fun n x hx ho=>?_,fun n x u hx ho hu hu2=>?_⟩
 ·have hlt:=(List.getElem?_eq_some_iff.1 hi).1;show C5 self_ p _ _=_;rw [C5,At (dT (by omega)),Cz i u rfl hi,h1,gdT (g:=(!true)==false&&true) rfl,h3,sbd,Aj (c:=bif (!true) then true else (!true)) rfl,ckb (by omega)]
 ·show C5 self_ p _ _=_;rw [C5,Aj (dF (by omega)),Kg,At (dT ho)]
 ·show C5 self_ p _ _=_;rw [C5,Aj (dF (by omega)),Kg,Aj (dF (by omega)),Cz (i:=1) 1 u rfl hu,dT hu2]
theorem A81 {self_:sift_Node→Option Bool} {p:sift_Node}:StL self_ p true (Gu self_ p):=by
 refine ⟨fun n i u hi hl h1 h2 h3=>?_,fun n x hx ho=>?_,fun n x u hx ho hu hu2=>?_⟩
 ·have hlt:=(List.getElem?_eq_some_iff.1 hi).1;show C6 self_ p _ _=_;rw [C6,At (dT (by omega)),Cz i u rfl hi,h1,gdT (g:=(!true)==false&&true) rfl,h3,sbd,Aj (c:=bif (!true) then true else (!true)) rfl,ckb (by omega)]
 ·show C6 self_ p _ _=_;rw [C6,Aj (dF (by omega)),Kh,At (dT ho)]
 ·show C6 self_ p _ _=_;rw [C6,Aj (dF (by omega)),Kh,Aj (dF (by omega)),Cz (i:=1) 1 u rfl hu,dT hu2]
theorem A82 {self_:sift_Node→Option Bool} {p:sift_Node}:StL self_ p false (Gv self_ p):=by
 refine ⟨fun n i u hi hl h1 h2 h3=>?_,fun n x hx ho=>?_,fun n x u hx ho hu hu2=>?_⟩
 ·have hlt:=(List.getElem?_eq_some_iff.1 hi).1;show C7 self_ p _ _=_;rw [C7,At (dT (by omega)),Cz i u rfl hi,h2,gdT (g:=(!!false)==false&&true) rfl,h3,sbd,Aj (c:=bif (!!false) then true else (!true)) rfl,ckb (by omega)]
 ·show C7 self_ p _ _=_;rw [C7,Aj (dF (by omega)),Ki,At (dT ho)]
 ·show C7 self_ p _ _=_;rw [C7,Aj (dF (by omega)),Ki,Aj (dF (by omega)),Cz (i:=1) 1 u rfl hu,dT hu2]
theorem A23 {g r v:Int} (hg:0≤g) (hr:0≤r) (hv:0≤v):¬(if g<if r<v then r else v then g else if r<v then r else v)<0:=by split<;>split<;>omega
theorem A22 {g r m:Int} (hg:g≤m) (hr:r≤m):¬(if g>r then g else r)>m:=by split<;>omega
theorem eqT {a b:Int} (h:a=b):(a==b)=true:=by subst h;exact beq_self_eq_true _
theorem eqF {a b:Int} (h:a≠b):(a==b)=false:=beq_eq_false_iff_ne.2 h
theorem neF {a b:Int} (h:a=b):(a != b)=false:=by subst h;simp
theorem neT {a b:Int} (h:a≠b):(a != b)=true:=by simp [h]
theorem Y9:∀(t:T) (k:Bool) (F:Nat),okT k t→t.size+5≤F→Bf F t.node=some true:=by
 intro t
 induction t with
 | leaf op v =>
  intro k F h hF;obtain ⟨F,rfl⟩:∃G,F=G+2:=⟨F-2,by simp only [T.size] at hF;omega⟩;have hk:=h.kind;show Cy (F+1) (Bf (F+1)) ⟨op,v,0,0,[]⟩=_;have h3:op≠3∧op≠4∧op≠5∧op≠6∧op≠7∧op≠25∧op≠26∧op≠27∧¬(8≤op∧op≤13)∧op<26∧0≤v∧(op=14→v≤1000000000)∧(op≠14→v=0):=by
   cases k<;>simp only [okT] at h<;>refine ⟨?_,?_,?_,?_,?_,?_,?_,?_,?_,?_,?_,?_,?_⟩<;>omega
  obtain ⟨a1,a2,a3,a4,a5,a6,a7,a8,a9,a10,a11,a12,a13⟩:=h3;have e8:(bif decide (op≥8) then decide (op≤13) else false)=false:=by
   by_cases hc:op≥8
   ·rw [At (dT hc)];exact dF (by omega)
   ·rw [Aj (dF hc)]
  have hL:(([]:List sift_Node).length:Int)=0:=rfl;unfold Cy;dsimp only;rw [Aj (eqF a1),eqF a2,eqF a3,Aj (c:=false) rfl,Aj (c:=false) rfl,eqF a4,eqF a5,eqF a6,Aj (c:=false) rfl,Aj (c:=false) rfl,Aj (c:=false) rfl,e8,eqF a7,eqF a8,Aj (c:=false) rfl,Aj (c:=false) rfl,Aj (c:=false) rfl]
  by_cases h14:op=14
  ·rw [At (eqT h14),hL,neF rfl,Aj (c:=false) rfl,dF (A23 (Int.le_refl 0) (Int.le_refl 0) a11),Aj (c:=false) rfl,dF (show ¬v>1000000000 by have:=a12 h14;omega),Aj (c:=false) rfl,dF (A22 (Int.le_refl 0) (Int.le_refl 0)),Aj (c:=false) rfl];show D1 _ _ _ _=_;rw [D1,Aj (dF (by simp)),N3,At (dT a10)]
  ·have hv:=a13 h14;subst hv;rw [Aj (eqF h14)];have e9:(bif (!(sift_isCondition ⟨op,0,0,0,[]⟩)) then (!(sift_isValue ⟨op,0,0,0,[]⟩)) else false)=false:=by
    have h1:sift_isCondition ⟨op,0,0,0,[]⟩=k:=hk.1;have h2:sift_isValue ⟨op,0,0,0,[]⟩=!k:=hk.2;rw [h1,h2];cases k<;>rfl
   rw [Aj e9,hL,neF rfl,Aj (c:=false) rfl,dF (A23 (Int.le_refl 0) (Int.le_refl 0) (Int.le_refl 0)),Aj (c:=false) rfl,dF (show ¬(0:Int)>0 by omega),Aj (c:=false) rfl,dF (A22 (Int.le_refl 0) (Int.le_refl 0)),Aj (c:=false) rfl];show D2 _ _ _ _=_;rw [D2,Aj (dF (by simp)),Lw,At (dT a10)]
 | un op r g a ih =>
  intro k F h hF;simp only [T.size] at hF;have:=a.size_pos;obtain ⟨F,rfl⟩:∃G,F=G+3:=⟨F-3,by omega⟩;show Cy (F+2) (Bf (F+2)) ⟨op,0,r,g,[a.node]⟩=_;have ha:okT true a:=by cases k<;>simp only [okT] at h<;>exact h.2
  have hs:=ih true (F+2) ha (by omega);have hk:=ha.kind;have hL:(([a.node]:List sift_Node).length:Int)=1:=rfl;have fin:∀(L:Nat→Int→Option Bool),StL (Bf (F+2)) ⟨op,0,r,g,[a.node]⟩ true L→op<26→L (F+2) 0=some true:=fun L hLL ho=>by
   have h1:=hLL.go (F+1) 0 a.node rfl (by simp) hk.1 hk.2 hs;have h2:=hLL.fin F ((0:Nat)+1:Int) (by simp) ho;exact h1.trans h2
  unfold Cy;dsimp only
  by_cases h3:op=3
  ·have hrg:r=0∧g=0:=by cases k<;>simp only [okT] at h<;>omega
   obtain ⟨rfl,rfl⟩:=hrg;rw [At (eqT h3),hL,neF rfl,Aj (c:=false) rfl,dF (A23 (Int.le_refl 0) (Int.le_refl 0) (Int.le_refl 0)),Aj (c:=false) rfl,dF (show ¬(0:Int)>0 by omega),Aj (c:=false) rfl,dF (A22 (Int.le_refl 0) (Int.le_refl 0)),Aj (c:=false) rfl];exact fin _ A7z (by omega)
  ·have hop:(op=6∨op=7∨op=25)∧0≤r∧r≤3∧0≤g∧g≤3:=by cases k<;>simp only [okT] at h<;>omega
   obtain ⟨hop,r1,r2,g1,g2⟩:=hop;have e6:(bif (bif (op==6) then true else (op==7)) then true else (op==25))=true:=by
    rcases hop with rfl|rfl|rfl<;>rfl
   rw [Aj (eqF h3),eqF (show op≠4 by omega),eqF (show op≠5 by omega),Aj (c:=false) rfl,Aj (c:=false) rfl,At e6,hL,neF rfl,Aj (c:=false) rfl,dF (A23 g1 r1 (Int.le_refl 0)),Aj (c:=false) rfl,dF (show ¬(0:Int)>0 by omega),Aj (c:=false) rfl,dF (A22 g2 r2),Aj (c:=false) rfl];exact fin _ A81 (by omega)
 | bin op a b iha ihb =>
  intro k F h hF;simp only [T.size] at hF;have:=a.size_pos;have:=b.size_pos;obtain ⟨F,rfl⟩:∃G,F=G+4:=⟨F-4,by omega⟩;show Cy (F+3) (Bf (F+3)) ⟨op,0,0,0,[a.node,b.node]⟩=_;have hL:(([a.node,b.node]:List sift_Node).length:Int)=2:=rfl;have fin:∀(q:Bool) (L:Nat→Int→Option Bool),StL (Bf (F+3)) ⟨op,0,0,0,[a.node,b.node]⟩ q L→okT q a→okT q b→(26≤op→b.op<26)→L (F+3) 0=some true:=fun q L hLL ha hb ho=>by
   have h1:=hLL.go (F+2) 0 a.node rfl (by simp) ha.kind.1 ha.kind.2 (iha q (F+3) ha (by omega));have h2:=hLL.go (F+1) 1 b.node rfl (by simp) hb.kind.1 hb.kind.2 (ihb q (F+3) hb (by omega));have h3:L (F+1) ((1:Nat)+1:Int)=some true:=by
    by_cases hc:op<26
    ·exact hLL.fin F _ (by simp) hc
    ·exact hLL.fin2 F _ b.node (by simp) (by show 26≤op;omega) rfl (by rw [Yp];exact ho (by omega))
   exact h1.trans (h2.trans h3)
  unfold Cy;dsimp only;have h3:op≠3:=by cases k<;>simp only [okT] at h<;>omega
  rw [Aj (eqF h3)]
  by_cases h4:op=4∨op=5
  ·have hab:okT true a∧okT true b:=by
    cases k<;>simp only [okT] at h
    ·omega
    ·rcases h with h|h
     ·exact h.2
     ·omega
   have e4:(bif (op==4) then true else (op==5))=true:=by rcases h4 with rfl|rfl<;>rfl
   rw [At e4,hL,neF rfl,Aj (c:=false) rfl,dF (A23 (Int.le_refl 0) (Int.le_refl 0) (Int.le_refl 0)),Aj (c:=false) rfl,dF (show ¬(0:Int)>0 by omega),Aj (c:=false) rfl,dF (A22 (Int.le_refl 0) (Int.le_refl 0)),Aj (c:=false) rfl];exact fin true _ A80 hab.1 hab.2 (by omega)
  ·have hab:okT false a∧okT false b∧(26≤op→b.op<26)∧(8≤op∧op≤13∨op=26∨op=27):=by
    cases k<;>simp only [okT] at h
    ·exact ⟨h.2.1,h.2.2.1,fun _=>h.2.2.2,by omega⟩
    ·rcases h with h|h
     ·omega
     ·exact ⟨h.2.2.1,h.2.2.2,by omega,by omega⟩
   obtain ⟨ha,hb,ho,hop⟩:=hab;have e8:(bif (bif (bif decide (op≥8) then decide (op≤13) else false) then true else (op==26)) then true else (op==27))=true:=by
    rcases hop with ⟨h1,h2⟩|rfl|rfl
    ·rw [dT h1,dT h2];rfl
    ·rfl
    ·rfl
   rw [eqF (show op≠4 by omega),eqF (show op≠5 by omega),Aj (c:=false) rfl,Aj (c:=false) rfl,eqF (show op≠6 by omega),eqF (show op≠7 by omega),eqF (show op≠25 by omega),Aj (c:=false) rfl,Aj (c:=false) rfl,Aj (c:=false) rfl,At e8,hL,neF rfl,Aj (c:=false) rfl,dF (A23 (Int.le_refl 0) (Int.le_refl 0) (Int.le_refl 0)),Aj (c:=false) rfl,dF (show ¬(0:Int)>0 by omega),Aj (c:=false) rfl,dF (A22 (Int.le_refl 0) (Int.le_refl 0)),Aj (c:=false) rfl];exact fin false _ A82 ha hb ho
end Go.Proofs.YtkjnafecmjakcaaGreatDoor
namespace Go.Proofs.YtkjnafecmjakcaaGreatDoor
open Go Go.RowKit Go.Eng
set_option maxRecDepth 10000
set_option linter.unusedVariables false
set_option linter.unusedSimpArgs false
def tb (l:List UInt8):ByteArray:=⟨l.toArray⟩
theorem A6m (a b:List UInt8):tb a++tb b=tb (a++b):=by
 apply ByteArray.ext;show (tb a++tb b).data=_;rw [ByteArray.data_append];simp [tb]
theorem Z3 (a:List UInt8):(tb a).size=a.length:=by simp [tb,ByteArray.size]
theorem A7q (s:ByteArray):∃l,s=tb l:=⟨s.data.toList,by cases s;simp [tb]⟩
theorem Ef {β:Type} {a b:List UInt8} {f:ByteArray→Option β} (h:a.length+b.length≤9000000000):(F6 (tb a) (tb b)).bind f=f (tb (a++b)):=by
 unfold F6;rw [if_pos (by rw [Z3,Z3];omega),sbd,A6m]
theorem A3x (a b:List UInt8):sEq (tb a) (tb b)=decide (a=b):=by
 unfold sEq;have e:((tb a).data.toList=(tb b).data.toList)=(a=b):=by simp [tb]
 by_cases h:a=b
 ·rw [dT h,dT (by rw [e];exact h)]
 ·rw [dF h,dF (by rw [e];exact h)]
def wd (op:Int):List UInt8:=((B8.1[op.toNat]?).getD ⟨#[]⟩).data.toList
theorem wdb {β:Type} {op:Int} {f:ByteArray→Option β} (h:0≤op∧op≤27):(Wu B8 op).bind f=f (tb (wd op)):=by
 unfold Wu;have hl:op.toNat<B8.1.length:=by rw [B8.2];omega
 rw [Cz op.toNat (B8.1[op.toNat]) (by omega) (List.getElem?_eq_getElem hl)];unfold wd;rw [List.getElem?_eq_getElem hl]
 congr 1
def textT:T→List UInt8
 | .leaf op v=>if op=14 then Lib.itoa v else wd op
 | .un op r g a=>if op=3 then wd 3++(32::textT a) else wd op++(32::(Lib.itoa r++(32::(Lib.itoa g++(32::textT a)))))
 | .bin op a b=>if op<14 then 40::(textT a++(32::(wd op++(32::(textT b++[41]))))) else textT a++(32::(wd op++(32::textT b)))
theorem Rk (op:Int):(wd op).length≤6:=by
 have key:∀i:Fin 28,((B8.1[i.val]?).getD ⟨#[]⟩).data.toList.length≤6:=by decide
 unfold wd
 by_cases h:op.toNat<28
 ·exact key ⟨op.toNat,h⟩
 ·rw [List.getElem?_eq_none (by rw [B8.2];omega)];simp
theorem A59:∀(k u:Nat),u<10 ^ (k+1)→Lib.nDigits u≤k+1
 | 0,u,h=>by rw [Lib.nDigits_small (by simpa using h)];omega
 | k+1,u,h=>by
  by_cases hu:u<10
  ·rw [Lib.nDigits_small hu];omega
  ·rw [Lib.nDigits_big hu];have:=A59 k (u/10) (by rw [Nat.pow_succ] at h;omega);omega
theorem Ld {v:Int} (h:0≤v∧v≤1000000000):(Lib.itoa v).length≤10:=by
 obtain ⟨u,rfl⟩:∃u:Nat,v=u:=⟨v.toNat,by omega⟩;rw [Lib.itoa_nonneg,Lib.decDigits_length];exact A59 9 u (by omega)
theorem N5:∀(t:T) (k:Bool),okT k t→(textT t).length≤40*t.size:=by
 intro t
 induction t with
 | leaf op v =>
  intro k h;simp only [textT,T.size]
  split
  ·have:=Ld (v:=v) (by cases k<;>simp only [okT] at h<;>omega);omega
  ·have:=Rk op;omega
 | un op r g a ih =>
  intro k h;have ha:okT true a:=by cases k<;>simp only [okT] at h<;>exact h.2
  have h1:=ih true ha;have hr:0≤r∧r≤1000000000:=by cases k<;>simp only [okT] at h<;>omega
  have hg:0≤g∧g≤1000000000:=by cases k<;>simp only [okT] at h<;>omega
  have:=Ld hr;have:=Ld hg;have:=Rk op;have:=Rk 3;simp only [textT,T.size]
  split<;>simp only [List.length_append,List.length_cons]<;>omega
 | bin op a b iha ihb =>
  intro k h;have hab:(∃q,okT q a)∧∃q,okT q b:=by
   cases k<;>simp only [okT] at h
   ·exact ⟨⟨_,h.2.1⟩,⟨_,h.2.2.1⟩⟩
   ·rcases h with h|h
    ·exact ⟨⟨_,h.2.1⟩,⟨_,h.2.2⟩⟩
    ·exact ⟨⟨_,h.2.2.1⟩,⟨_,h.2.2.2⟩⟩
  obtain ⟨⟨q,ha⟩,q',hb⟩:=hab;have:=iha q ha;have:=ihb q' hb;have:=Rk op;simp only [textT,T.size]
  split<;>simp only [List.length_append,List.length_cons,List.length_nil]<;>omega
theorem A37 {β:Type} {F:Nat} {v:Int} {f:ByteArray→Option β} (h:0≤v∧v≤1000000000):(strconv_Itoa F v).bind f=f (tb (Lib.itoa v)):=by
 unfold strconv_Itoa;rw [if_pos (by omega),sbd];rfl
theorem A10 (F:Nat) (p:sift_Node):Gw (F+1) p=F5 F (Gw F) p:=rfl
theorem A40:(⟨#[32]⟩:ByteArray)=tb [32]:=rfl
theorem A4z:∀(t:T) (k:Bool) (F:Nat),okT k t→t.size+2≤F→t.size≤1000000→Gw F t.node=some (tb (textT t)):=by
 intro t
 induction t with
 | leaf op v =>
  intro k F h hF _;obtain ⟨F,rfl⟩:∃G,F=G+1:=⟨F-1,by simp only [T.size] at hF;omega⟩;have h0:0≤op∧op≤27:=by cases k<;>simp only [okT] at h<;>omega
  rw [A10];show F5 F _ ⟨op,v,0,0,[]⟩=_;unfold F5;dsimp only;rw [wdb h0]
  by_cases h14:op=14
  ·rw [At (eqT h14),A37 (by cases k<;>simp only [okT] at h<;>omega)]
   simp only [textT,if_pos h14]
  ·rw [Aj (eqF h14),Aj (eqF (show op≠3 by cases k<;>simp only [okT] at h<;>omega)),Aj (eqF (show (([]:List sift_Node).length:Int)≠1 by simp)),At (eqT (show (([]:List sift_Node).length:Int)=0 by simp))]
   simp only [textT,if_neg h14]
 | un op r g a ih =>
  intro k F h hF hs;simp only [T.size] at hF hs;obtain ⟨F,rfl⟩:∃G,F=G+1:=⟨F-1,by omega⟩;have h0:0≤op∧op≤27∧op≠14:=by cases k<;>simp only [okT] at h<;>omega
  have ha:okT true a:=by cases k<;>simp only [okT] at h<;>exact h.2
  have hr:0≤r∧r≤1000000000:=by cases k<;>simp only [okT] at h<;>omega
  have hg:0≤g∧g≤1000000000:=by cases k<;>simp only [okT] at h<;>omega
  have hi:=ih true F ha (by omega) (by omega);have hl:=N5 a true ha;have l1:=Ld hr;have l2:=Ld hg;have l3:=Rk op;rw [A10];show F5 F _ ⟨op,0,r,g,[a.node]⟩=_;unfold F5;dsimp only;rw [wdb ⟨h0.1,h0.2.1⟩,Aj (eqF h0.2.2)]
  by_cases h3:op=3
  ·subst h3;rw [At (eqT rfl),A40,Ef (by simp;omega),Rm,hi,sbd,Ef (by simp;omega)];simp only [textT,if_pos,List.append_assoc,List.singleton_append]
  ·rw [Aj (eqF h3),At (eqT (show (([a.node]:List sift_Node).length:Int)=1 by simp)),A40,Ef (by simp;omega),A37 hr,Ef (by simp;omega),Ef (by simp;omega),A37 hg,Ef (by simp;omega),Ef (by simp;omega),Rm,hi,sbd,Ef (by simp;omega)];simp only [textT,if_neg h3,List.append_assoc,List.singleton_append,List.cons_append,List.nil_append]
 | bin op a b iha ihb =>
  intro k F h hF hs;simp only [T.size] at hF hs;obtain ⟨F,rfl⟩:∃G,F=G+1:=⟨F-1,by omega⟩;have h0:0≤op∧op≤27∧op≠14∧op≠3:=by cases k<;>simp only [okT] at h<;>omega
  have hab:(∃q,okT q a)∧∃q,okT q b:=by
   cases k<;>simp only [okT] at h
   ·exact ⟨⟨_,h.2.1⟩,⟨_,h.2.2.1⟩⟩
   ·rcases h with h|h
    ·exact ⟨⟨_,h.2.1⟩,⟨_,h.2.2⟩⟩
    ·exact ⟨⟨_,h.2.2.1⟩,⟨_,h.2.2.2⟩⟩
  obtain ⟨⟨q,ha⟩,q',hb⟩:=hab;have hia:=iha q F ha (by omega) (by omega);have hib:=ihb q' F hb (by omega) (by omega);have hl:=N5 a q ha;have hl2:=N5 b q' hb;have l3:=Rk op;rw [A10];show F5 F _ ⟨op,0,0,0,[a.node,b.node]⟩=_;unfold F5;dsimp only;rw [wdb ⟨h0.1,h0.2.1⟩,Aj (eqF h0.2.2.1),Aj (eqF h0.2.2.2),Aj (eqF (show (([a.node,b.node]:List sift_Node).length:Int)≠1 by simp)),Aj (eqF (show (([a.node,b.node]:List sift_Node).length:Int)≠0 by simp)),
   Rm,hia,sbd,A40,Ef (by simp;omega),Ef (by simp;omega),Ef (by simp;omega),A1u,hib,sbd,Ef (by simp;omega)]
  by_cases h14:op<14
  ·rw [At (dT h14),show (⟨#[40]⟩:ByteArray)=tb [40] from rfl,show (⟨#[41]⟩:ByteArray)=tb [41] from rfl,Ef (by simp;omega),Ef (by simp;omega)];simp only [textT,if_pos h14,List.append_assoc,List.singleton_append,List.cons_append,List.nil_append]
  ·rw [Aj (dF h14)];simp only [textT,if_neg h14,List.append_assoc,List.singleton_append,List.cons_append,List.nil_append]
end Go.Proofs.YtkjnafecmjakcaaGreatDoor
namespace Go.Proofs.YtkjnafecmjakcaaGreatDoor
open Go Go.RowKit Go.Eng
set_option maxRecDepth 10000
set_option linter.unusedVariables false
set_option linter.unusedSimpArgs false
def A71:List Int:=[1,2,3,6,7,15,16,17,18,19,20,21,22,23,24,25]
inductive Beg where
 | num (v:Int)
 | word (op:Int) (r:List UInt8)
 | open_ (r:List UInt8)
def Beg.ok:Beg→Prop
 | .num v=>0≤v
 | .word op _=>op∈A71
 | .open_ _=>True
theorem okU {k:Bool} {op r g:Int} {x:T} (h:okT k (.un op r g x)):okT true x∧0≤r∧0≤g∧(op=3→r=0∧g=0):=by
 cases k<;>simp only [okT] at h
 ·exact ⟨h.2,by omega,by omega,by omega⟩
 ·exact ⟨h.2,by omega,by omega,by omega⟩
end Go.Proofs.YtkjnafecmjakcaaGreatDoor
namespace Go.Proofs.YtkjnafecmjakcaaGreatDoor
open Go Go.RowKit Go.Eng
set_option maxRecDepth 10000
set_option linter.unusedVariables false
set_option linter.unusedSimpArgs false
def tab {α:Type} (n:Nat) (f:Int→α):List α:=(List.range n).map fun i:Nat=>f (i:Int)
def irg (lo hi:Int):List Int:=(List.range (hi+1-lo).toNat).map fun i:Nat=>lo+(i:Int)
def nb1 (R m k g b:Int):List Int:=((irg (if k%m-g>0 then k%m-g else 0) (if k%m+g<m-1 then k%m+g else m-1)).map fun j=>(b+R)%R*m+j).filter fun o=>o != k
def nbs (R m k r g:Int):List Int:=(if k/m+r-(k/m-r)≥R then irg 0 (R-1) else irg (k/m-r) (k/m+r)).flatMap (nb1 R m k g)
section
variable {σ:Type} {body:σ→Int→Option (σ×Bool)} {f:σ→Int→σ} {P:σ→Nat→Prop} {d:sift_scan} {R m k r g:Int}
end
end Go.Proofs.YtkjnafecmjakcaaGreatDoor
namespace Go.Proofs.YtkjnafecmjakcaaGreatDoor
open Go Go.RowKit Go.Eng
set_option maxRecDepth 10000
set_option linter.unusedVariables false
set_option linter.unusedSimpArgs false
def Xn (s:api_Sweep) (k:Int):api_Echo:=((s.Rays[(k/s.Site.Gates).toNat]?.getD [])[(k%s.Site.Gates).toNat]?).getD default
def pt (n:Int):sift_val:=⟨⟨n,n⟩,true⟩
def noV:sift_val:=⟨⟨0,0⟩,false⟩
def A5w (s:api_Sweep) (op v k:Int):sift_val :=
 if op=14 then pt v else if op=21 then pt (Xn s k).Kind else if op=22 then pt (k/s.Site.Gates) else if op=23 then pt (k%s.Site.Gates) else if op=24 then pt s.Tilt else if op=15 then ⟨(Xn s k).Power,true⟩
 else if (Xn s k).Kind=1 then noV else if op=16 then ⟨(Xn s k).Ratio,true⟩ else if op=17 then ⟨(Xn s k).Match,true⟩ else if op=18 then pt (Xn s k).Spread else if (Xn s k).Kind=2 then noV else if op=19 then ⟨(Xn s k).Turn,true⟩ else ⟨⟨(Xn s k).Steps.1.Lo,(Xn s k).Steps.1.Hi⟩,true⟩
def tri (a b:Prop) [Decidable a] [Decidable b]:Int:=if a then 1 else if b then 2 else 3
def mx (a b:Int):Int:=if b>a then b else a
def mn (a b:Int):Int:=if b<a then b else a
def A6x (op:Int) (x y:api_Span):Int :=
 if op=8∨op=10 then tri (x.Hi<y.Lo) (x.Lo<y.Hi) else if op=9∨op=11 then tri (x.Hi≤y.Lo) (x.Lo≤y.Hi)
 else if op=12 then tri (mx x.Hi y.Hi=mn x.Lo y.Lo) (x.Lo≤y.Hi∧y.Lo≤x.Hi) else tri (x.Hi<y.Lo∨y.Hi<x.Lo) (mx x.Hi y.Hi≠mn x.Lo y.Lo)
def A7u (op:Int) (a b:sift_val):Int :=
 if a.has=false∨b.has=false then 3 else if op=10∨op=11 then A6x op b.span a.span else A6x op a.span b.span
def A83 (op:Int) (a b:sift_val):sift_val :=
 if a.has=false∨b.has=false then noV else if op=27 then ⟨⟨a.span.Lo-b.span.Hi,a.span.Hi-b.span.Lo⟩,true⟩ else ⟨⟨a.span.Lo+b.span.Lo,a.span.Hi+b.span.Hi⟩,true⟩
def A75 (op:Int) (l:List Int) (f:Int→Int):Int :=
 if op=6 then l.foldl (fun a o=>mn a (f o)) 3 else l.foldl (fun a o=>mx a (f o)) 1
def A5o (l:List Int) (f:Int→Int):sift_val:=⟨⟨l.countP fun o=>f o==1,l.countP fun o=>f o != 3⟩,true⟩
def T.sem (s:api_Sweep):T→Int→Int×sift_val
 | .leaf op v,k=>(if op=1 then 1 else 3,A5w s op v k)
 | .un op r g a,k=>(if op=3 then 4-(a.sem s k).1 else A75 op (nbs s.Rays.length s.Site.Gates k r g) fun o=>(a.sem s o).1,A5o (nbs s.Rays.length s.Site.Gates k r g) fun o=>(a.sem s o).1)
 | .bin op a b,k=>(if op=4 then mx (a.sem s k).1 (b.sem s k).1 else if op=5 then mn (a.sem s k).1 (b.sem s k).1 else A7u op (a.sem s k).2 (b.sem s k).2,A83 op (a.sem s k).2 (b.sem s k).2)
def bdS (x:api_Span):Prop:=-2147483648≤x.Lo∧x.Lo≤2147483648∧-2147483648≤x.Hi∧x.Hi≤2147483648
def bdE (e:api_Echo):Prop:=bdS e.Power∧bdS e.Ratio∧bdS e.Match∧bdS e.Turn∧bdS e.Steps.1∧bdS e.Steps.2∧0≤e.Kind∧e.Kind≤3∧0≤e.Spread∧e.Spread≤65535
structure Swp (s:api_Sweep) (R m:Nat):Prop where
 hR:s.Rays.length=R
 hm:s.Site.Gates=m
 R4:4≤R∧R≤500
 m1:1≤m∧m≤1000
 N1:R*m≤1000
 rows:∀l∈s.Rays,l.length=m
 bds:∀l∈s.Rays,∀e∈l,bdE e
 tilt:0≤s.Tilt∧s.Tilt≤256
theorem A5b {β:Type} {k m:Int} {f:Int→Option β} (hk:0≤k) (hm:1≤m):(Xm k m).bind f=f (k%m):=by
 unfold Xm;rw [if_neg (by omega),Int.tmod_eq_emod_of_nonneg hk];rfl
end Go.Proofs.YtkjnafecmjakcaaGreatDoor
namespace Go.Proofs.YtkjnafecmjakcaaGreatDoor
open Go Go.RowKit Go.Eng
set_option maxRecDepth 10000
set_option linter.unusedVariables false
set_option linter.unusedSimpArgs false
theorem Mg {f:Int→List Int} {c:Nat} (hf:∀x,(f x).length≤c):∀l:List Int,(l.flatMap f).length≤l.length*c:=by
 intro l
 induction l with
 | nil=>simp
 | cons x l ih =>
  rw [List.flatMap_cons,List.length_append,List.length_cons,Nat.add_mul];have:=hf x;omega
section
variable {κ ν:Type} [DecidableEq κ]
end
structure Inv (s:api_Sweep) (N:Nat) (d:sift_scan):Prop where
 hs:d.s=s
 hn:d.n=(N:Int)
 ht:∀t l,okT true t→lkM d.tests (tb (textT t))=some l→l=tab N fun k=>(t.sem s k).1
 hv:∀t l,okT false t→lkM d.values (tb (textT t))=some l→l=tab N fun k=>(t.sem s k).2
section
variable {s:api_Sweep} {R m N:Nat} {d d':sift_scan}
end
end Go.Proofs.YtkjnafecmjakcaaGreatDoor
namespace Go.Proofs.YtkjnafecmjakcaaGreatDoor
open Go Go.RowKit Go.Eng
set_option maxRecDepth 10000
set_option linter.unusedVariables false
set_option linter.unusedSimpArgs false
section
variable {F:Nat} {S:Ag} {V:Af} {d:sift_scan} {p:sift_Node} {key:ByteArray}
end
end Go.Proofs.YtkjnafecmjakcaaGreatDoor
namespace Go.Proofs.YtkjnafecmjakcaaGreatDoor
open Go Go.RowKit Go.Eng
set_option maxRecDepth 10000
set_option linter.unusedVariables false
set_option linter.unusedSimpArgs false
def rlN (p:ByteArray×T):sift_Rule:=⟨p.1,p.2.node⟩
def rl (L:List (ByteArray×T)):List sift_Rule:=L.map rlN
theorem Pk (L:List (ByteArray×T)):(rl L).length=L.length:=by simp [rl]
theorem Th {L:List (ByteArray×T)} {i:Nat} {p:ByteArray×T} (h:L[i]? = some p):(rl L)[i]? = some (rlN p):=by simp [rl,h]
structure GoodR (L:List (ByteArray×T)):Prop where
 len:L.length≤32
 size:(L.map (·.2.size)).sum≤300
 names:∀p∈L,∀F,30≤F→beam_Name F p.1=some true∧sift_word F p.1=some false
 distinct:∀(i j:Nat) (p q:ByteArray×T),L[i]? = some p→L[j]? = some q→i<j→p.1≠q.1
 trees:∀p∈L,okT true p.2∧p.2.depth≤12
theorem A42 {L:List (ByteArray×T)} {i:Nat} {p:ByteArray×T} (h:L[i]? = some p):((L.drop i).map (·.2.size)).sum=p.2.size+((L.drop (i+1)).map (·.2.size)).sum:=by
 obtain ⟨h1,h2⟩:=List.getElem?_eq_some_iff.1 h;rw [List.drop_eq_getElem_cons h1,List.map_cons,List.sum_cons,h2]
theorem Sm {L:List (ByteArray×T)} {p:ByteArray×T} (h:p∈L):p.2.size≤(L.map (·.2.size)).sum:=by
 induction L with
 | nil=>cases h
 | cons q L ih =>
  rw [List.map_cons,List.sum_cons];rcases List.mem_cons.1 h with rfl|h
  ·omega
  ·have:=ih h;omega
theorem A1o {l:List sift_Rule} {r:sift_Rule} (hl:l.length≤40) (h:∀(i:Nat) (x:sift_Rule),l[i]? = some x→sEq x.Name r.Name=false):∀(F j:Nat),l.length+1≤F+j→j≤l.length→Ap l r F j=some (-1):=by
 intro F
 induction F with
 | zero=>intro j h1 h2;omega
 | succ F ih =>
  intro j h1 h2;show Ar l r _ j=_;unfold Ar
  by_cases hj:j<l.length
  ·rw [At (dT (by omega)),Cz j _ rfl (List.getElem?_eq_getElem hj)];unfold Kv;rw [Aj (h j _ (List.getElem?_eq_getElem hj)),ckb (by omega)];exact ih (j+1) (by omega) (by omega)
  ·rw [Aj (dF (by omega))];rfl
theorem Wm {L:List (ByteArray×T)} (h:GoodR L) {F:Nat} (hF:400≤F):Ec F (rl L)=some 0:=by
 have hlen:=h.len;have l3:∀(n j:Nat),L.length+1≤n+j→j≤L.length→J6 F (rl L) n j=some 0:=by
  intro n
  induction n with
  | zero=>intro j h1 h2;omega
  | succ n ih =>
   intro j h1 h2;show G4 F (rl L) _ j=_;unfold G4;rw [Pk]
   by_cases hj:j<L.length
   ·have hp:=List.getElem?_eq_getElem hj;have hm:=List.getElem_mem hj;generalize L[j]=p at hp hm;obtain ⟨n1,n2⟩:=h.names p hm F (by omega);obtain ⟨t1,t2⟩:=h.trees p hm;have hsz:=Nat.le_trans (Sm hm) h.size;have e1:sift_isCondition (rlN p).When=true:=t1.kind.1;rw [At (dT (by omega)),Cz j _ rfl (Th hp),show beam_Name F (rlN p).Name=some true from n1,sbd,gdT (g:=(!true)==false&&true) rfl,show sift_word F (rlN p).Name=some false from n2,sbd,Aj (c:=bif !true then true else false) rfl,
     show T2 (rl L) 0 (j:Int)=some ((rl L).take j) by unfold T2;rw [if_pos (by rw [Pk];omega)];simp,sbd]
    unfold Au Bd;rw [show Ap ((rl L).take j) (rlN p) F 0=some (-1) from A1o (by simp [Pk];omega) (by
     intro i x hx;obtain ⟨hi,hx2⟩:=List.getElem?_eq_some_iff.1 hx;have hij:i<j:=by simp [Pk] at hi;omega
     rw [List.getElem?_take_of_lt hij] at hx;have hq:=List.getElem?_eq_getElem (show i<L.length by omega);rw [Th hq] at hx
     cases hx
     have:=h.distinct i j _ _ hq hp hij;exact dF fun e=>this (ByteArray.ext (Array.toList_inj.1 e))) F 0 (by simp [Pk];omega) (by omega),sbd,sbd,Aj (c:=decide ((-1:Int)≥0)) rfl,
     show Dk F (rlN p).When=some (p.2.depth:Int) from A48 p.2 F (by omega) (by omega),sbd,Aj (dF (by omega)),e1,gdT (g:=(!true)==false&&true) rfl,show Bf F (rlN p).When=some true from Y9 p.2 true F t1 (by omega),sbd,Aj (c:=bif !true then true else !true) rfl,ckb (by omega)]
    exact ih (j+1) (by omega) (by omega)
   ·rw [Aj (dF (by omega))];rfl
 have l4:∀(n j:Nat) (y:Int),L.length+1≤n+j→j≤L.length→0≤y→y+(((L.drop j).map (·.2.size)).sum:Nat)≤300→J7 F (rl L) n j y=some 0:=by
  intro n
  induction n with
  | zero=>intro j y h1 h2;omega
  | succ n ih =>
   intro j y h1 h2 h3 h4;show G5 F (rl L) _ j y=_;unfold G5;rw [Pk]
   by_cases hj:j<L.length
   ·have hp:=List.getElem?_eq_getElem hj;have hm:=List.getElem_mem hj;generalize L[j]=p at hp hm;have hsz:=Nat.le_trans (Sm hm) h.size;rw [A42 hp] at h4;rw [At (dT (by omega)),Cz j _ rfl (Th hp),show Cc F (rlN p).When 300=some (p.2.size:Int) from A07 p.2 F 300 (by omega) (by omega) (by omega),sbd,ckb (by omega),Aj (dF (by omega)),ckb (by omega)];exact ih (j+1) _ (by omega) (by omega) (by omega) (by omega)
   ·rw [Aj (dF (by omega))];exact l3 F 0 (by omega) (by omega)
 unfold Ec;rw [Pk,Aj (dF (by omega))];exact l4 F 0 0 (by omega) (by omega) (by omega) (by rw [List.drop_zero];have:=h.size;omega)
section
variable {s:api_Sweep} {R m:Nat} {fs:List (Int→Int)}
end
end Go.Proofs.YtkjnafecmjakcaaGreatDoor
namespace Go.Proofs.YtkjnafecmjakcaaGreatDoor
open Go Go.RowKit Go.Eng
set_option maxRecDepth 10000
set_option linter.unusedVariables false
set_option linter.unusedSimpArgs false
def T.noRay:T→Prop
 | .leaf op _=>op≠22
 | .un _ _ _ a=>a.noRay
 | .bin _ a b=>a.noRay∧b.noRay
structure Mean (k ray:Bool) (d:Nat) (t:T):Prop where
 ok:okT k t
 size:t.size+1≤2 ^ d
 depth:t.depth≤d
 one:d=1→t.op<26
 ray:ray=false→t.noRay
end Go.Proofs.YtkjnafecmjakcaaGreatDoor
namespace Go.Proofs.YtkjnafecmjakcaaGreatDoor
open Go Go.RowKit Go.Eng
set_option maxRecDepth 10000
set_option linter.unusedVariables false
set_option linter.unusedSimpArgs false
def nms:List ByteArray:=[(⟨#[97]⟩:ByteArray),(⟨#[98,49]⟩:ByteArray),(⟨#[99,95]⟩:ByteArray),(⟨#[100,100,100,100,100,100,100,100,100,100,100,100]⟩:ByteArray)]
structure MeanR (ray:Bool) (L:List (ByteArray×T)):Prop where
 len:L.length≤4
 names:∀(i:Nat) p,L[i]? = some p→nms[i]? = some p.1
 trees:∀p∈L,Mean true ray 5 p.2
end Go.Proofs.YtkjnafecmjakcaaGreatDoor
namespace Go.Proofs.YtkjnafecmjakcaaGreatDoor
open Go Go.RowKit Go.Eng
set_option maxRecDepth 10000
set_option linter.unusedVariables false
set_option linter.unusedSimpArgs false
end Go.Proofs.YtkjnafecmjakcaaGreatDoor
namespace Go.Proofs.YtkjnafecmjakcaaGreatDoor
open Go Go.RowKit Go.Eng
set_option maxRecDepth 10000
set_option linter.unusedVariables false
set_option linter.unusedSimpArgs false
def T.pn:T→Bool→T
 | .leaf op v,n=>if n then .leaf (3-op) v else .leaf op v
 | .un op r g a,n=>if op=3 then (if n then a.pn false else if a.op<8 then a.pn true else .un op r g (a.pn false)) else if n then .un (13-op) r g (a.pn true) else .un op r g (a.pn false)
 | .bin op a b,n=>if n then (if 8≤op then .un 3 0 0 (.bin op (a.pn false) (b.pn false)) else .bin (9-op) (a.pn true) (b.pn true)) else .bin op (a.pn false) (b.pn false)
theorem pnL {op v:Int}:(T.leaf op v).pn false=.leaf op v:=by simp [T.pn]
theorem A7e {op v:Int}:(T.leaf op v).pn true=.leaf (3-op) v:=by simp [T.pn]
theorem pnU {op r g:Int} {a:T} (h:op≠3):(T.un op r g a).pn false=.un op r g (a.pn false):=by simp [T.pn,h]
theorem A6f {op r g:Int} {a:T} (h:op≠3):(T.un op r g a).pn true=.un (13-op) r g (a.pn true):=by simp [T.pn,h]
theorem pn3 {r g:Int} {a:T} (h:a.op<8):(T.un 3 r g a).pn false=a.pn true:=by simp [T.pn,h]
theorem A6d {r g:Int} {a:T} (h:8≤a.op):(T.un 3 r g a).pn false=.un 3 r g (a.pn false):=by simp [T.pn];omega
theorem A4o {r g:Int} {a:T}:(T.un 3 r g a).pn true=a.pn false:=by simp [T.pn]
theorem pnB {op:Int} {a b:T}:(T.bin op a b).pn false=.bin op (a.pn false) (b.pn false):=by simp [T.pn]
theorem A6e {op:Int} {a b:T} (h:8≤op):(T.bin op a b).pn true=.un 3 0 0 (.bin op (a.pn false) (b.pn false)):=by simp [T.pn,h]
theorem A3m {op:Int} {a b:T} (h:op<8):(T.bin op a b).pn true=.bin (9-op) (a.pn true) (b.pn true):=by
 have:¬8≤op:=by omega
 simp [T.pn,this]
theorem A4p:∀(t:T) (n:Bool),(t.pn n).size≤2*t.size∧(t.pn n).depth≤2*t.depth:=by
 intro t
 induction t with
 | leaf op v=>intro n;cases n<;>simp [T.pn,T.size,T.depth]
 | un op r g a ih =>
  intro n;have h1:=ih true;have h2:=ih false
  by_cases h3:op=3
  ·subst h3
   cases n
   ·by_cases h8:a.op<8
    ·rw [pn3 h8];simp only [T.size,T.depth];omega
    ·rw [A6d (by omega)];simp only [T.size,T.depth];omega
   ·rw [A4o];simp only [T.size,T.depth];omega
  ·cases n
   ·rw [pnU h3];simp only [T.size,T.depth];omega
   ·rw [A6f h3];simp only [T.size,T.depth];omega
 | bin op a b iha ihb =>
  intro n;have h1:=iha true;have h2:=iha false;have h3:=ihb true;have h4:=ihb false
  cases n
  ·rw [pnB];simp only [T.size,T.depth];omega
  ·by_cases h8:8≤op
   ·rw [A6e h8];simp only [T.size,T.depth];omega
   ·rw [A3m (by omega)];simp only [T.size,T.depth];omega
end Go.Proofs.YtkjnafecmjakcaaGreatDoor
namespace Go.Proofs.YtkjnafecmjakcaaGreatDoor
open Go Go.RowKit Go.Eng
set_option maxRecDepth 10000
set_option linter.unusedVariables false
set_option linter.unusedSimpArgs false
theorem Vx {x y:Bool} (h1:x=false) (h2:y=false):(bif x then true else y)=false:=by rw [h1,h2];rfl
section
variable {f:sift_Node→Option sift_Node} {p u v u' v':sift_Node} {n:Nat}
theorem A6o (h:p.Args=[]):Cs f p (n+1) 0 []=some []:=by
 show Bb f p _ 0 []=_;unfold Bb;rw [h,Aj (dF (by simp))];rfl
theorem A54 (h:p.Args=[u]) (hu:f u=some u'):Cs f p (n+2) 0 []=some [u']:=by
 show Bb f p _ 0 []=_;unfold Bb;rw [h,At (dT (by simp)),Rm,hu,sbd,show apd 56 [] [u']=some [u'] by unfold apd;rw [if_pos (by simp)];rfl,sbd,ckb (by omega)];show Bb f p _ (0+1) [u']=_;unfold Bb;rw [h,Aj (dF (by simp))];rfl
theorem A6p (h:p.Args=[u,v]) (hu:f u=some u') (hv:f v=some v'):Cs f p (n+3) 0 []=some [u',v']:=by
 show Bb f p _ 0 []=_;unfold Bb;rw [h,At (dT (by simp)),Rm,hu,sbd,show apd 56 [] [u']=some [u'] by unfold apd;rw [if_pos (by simp)];rfl,sbd,ckb (by omega)];show Bb f p _ (0+1) [u']=_;unfold Bb;rw [h,At (dT (by simp)),Cz (i:=0+1) 1 v rfl rfl,hv,sbd,show apd 56 [u'] [v']=some [u',v'] by unfold apd;rw [if_pos (by simp)];rfl,sbd,ckb (by omega)];show Bb f p _ (0+1+1) [u',v']=_;unfold Bb;rw [h,Aj (dF (by simp))];rfl
theorem A5f (h:p.Args=[]):Cb f p (n+1) 0 []=some []:=by
 show B3 f p _ 0 []=_;unfold B3;rw [h,Aj (dF (by simp))];rfl
theorem A5g (h:p.Args=[u]) (hu:f u=some u'):Cb f p (n+2) 0 []=some [u']:=by
 show B3 f p _ 0 []=_;unfold B3;rw [h,At (dT (by simp)),Rm,hu,sbd,show apd 56 [] [u']=some [u'] by unfold apd;rw [if_pos (by simp)];rfl,sbd,ckb (by omega)];show B3 f p _ (0+1) [u']=_;unfold B3;rw [h,Aj (dF (by simp))];rfl
theorem A5h (h:p.Args=[u,v]) (hu:f u=some u') (hv:f v=some v'):Cb f p (n+3) 0 []=some [u',v']:=by
 show B3 f p _ 0 []=_;unfold B3;rw [h,At (dT (by simp)),Rm,hu,sbd,show apd 56 [] [u']=some [u'] by unfold apd;rw [if_pos (by simp)];rfl,sbd,ckb (by omega)];show B3 f p _ (0+1) [u']=_;unfold B3;rw [h,At (dT (by simp)),Cz (i:=0+1) 1 v rfl rfl,hv,sbd,show apd 56 [u'] [v']=some [u',v'] by unfold apd;rw [if_pos (by simp)];rfl,sbd,ckb (by omega)];show B3 f p _ (0+1+1) [u',v']=_;unfold B3;rw [h,Aj (dF (by simp))];rfl
end
theorem Yq (F:Nat):Hr (F+1)=Hs F (Hr F) (Py F):=rfl
theorem Vv (F:Nat):Py (F+1)=E4 F (Hr F) (Py F):=rfl
theorem Vb {F:Nat} {P N:Ce} {p:sift_Node} {l:List sift_Node} (h3:p.Op=3→∃u m,p.Args=u::m∧8≤u.Op) (h:Cs P p F 0 []=some l):Hs F P N p=some ⟨p.Op,p.Value_,p.Rays,p.Gates,l⟩:=by
 unfold Hs Kc
 by_cases c:p.Op=3
 ·obtain ⟨u,m,e,e2⟩:=h3 c;rw [At (eqT c),h,sbd,e,Rm,Aj (dF (by omega))]
 ·rw [Aj (eqF c),h,sbd]
theorem A0n {F:Nat} {P N:Ce} {p:sift_Node} {l:List sift_Node} {op:Int} (h3:p.Op≠3) (h8:p.Op<8)
  (hx:∀f:Int→Option sift_Node,((Wu (⟨[(0:Int),3,3,(0:Int),1,1,1,1],rfl⟩:P5 Int 8) p.Op).bind fun u=>f (Xr .i64 p.Op u))=f op)
  (h:Cb N ⟨op,p.Value_,p.Rays,p.Gates,p.Args⟩ F 0 []=some l):E4 F P N p=some ⟨op,p.Value_,p.Rays,p.Gates,l⟩:=by
 unfold E4 Lv;rw [Aj (eqF h3),Aj (dF (by omega)),hx (fun o=>(Cb N ⟨o,p.Value_,p.Rays,p.Gates,p.Args⟩ F 0 []).bind fun y=>some ⟨o,p.Value_,p.Rays,p.Gates,y⟩),h,sbd]
theorem A14 {op op':Int} (h:(op=1∧op'=2)∨(op=2∧op'=1)∨(op=4∧op'=5)∨(op=5∧op'=4)∨(op=6∧op'=7)∨(op=7∧op'=6)) (f:Int→Option sift_Node) :
  ((Wu (⟨[(0:Int),3,3,(0:Int),1,1,1,1],rfl⟩:P5 Int 8) op).bind fun u=>f (Xr .i64 op u))=f op':=by
 rcases h with ⟨rfl,rfl⟩|⟨rfl,rfl⟩|⟨rfl,rfl⟩|⟨rfl,rfl⟩|⟨rfl,rfl⟩|⟨rfl,rfl⟩<;>rfl
theorem A3l:∀(t:T) (k:Bool),okT k t→(∀F,2*t.size+8≤F→Hr F t.node=some (t.pn false).node)∧(k=true→∀F,2*t.size+9≤F→Py F t.node=some (t.pn true).node):=by
 intro t
 induction t with
 | leaf op v =>
  intro k h;refine ⟨fun F hF=>?_,fun hk F hF=>?_⟩
  ·obtain ⟨F,rfl⟩:∃G,F=G+2:=⟨F-2,by omega⟩;rw [Yq,pnL];exact Vb (fun e=>by have e:op=3:=e;cases k<;>simp only [okT] at h<;>omega) (A6o rfl)
  ·subst hk;simp only [okT] at h;obtain ⟨F,rfl⟩:∃G,F=G+2:=⟨F-2,by omega⟩;rw [Vv,A7e];exact A0n (p:=(T.leaf op v).node) (op:=3-op) (by show op≠3;omega) (by show op<8;omega) (A14 (op:=op) (op':=3-op) (by omega)) (A5f rfl)
 | un op r g a ih =>
  intro k h;have ha:okT true a:=by cases k<;>simp only [okT] at h<;>exact h.2
  obtain ⟨i1,i2⟩:=ih true ha;have i2:=i2 rfl;have hpl:∀F,2*(T.un op r g a).size+8≤F→Hr F (T.un op r g a).node=some ((T.un op r g a).pn false).node:=by
   intro F hF;simp only [T.size] at hF;obtain ⟨F,rfl⟩:∃G,F=G+3:=⟨F-3,by omega⟩;rw [Yq]
   by_cases h3:op=3
   ·subst h3;have hrg:r=0∧g=0:=by cases k<;>simp only [okT] at h<;>omega
    by_cases h8:a.op<8
    ·rw [pn3 h8];unfold Hs;rw [At (eqT (show (T.un 3 r g a).node.Op=3 from rfl)),show (T.un 3 r g a).node.Args=[a.node] from rfl,Rm,At (dT (by rw [Yp];exact h8)),Rm,i2 (F+2) (by omega),sbd]
    ·rw [A6d (by omega)];exact Vb (fun _=>⟨a.node,[],rfl,by rw [Yp];omega⟩) (A54 rfl (i1 (F+2) (by omega)))
   ·rw [pnU h3];exact Vb (fun e=>absurd e h3) (A54 rfl (i1 (F+2) (by omega)))
  refine ⟨hpl,fun hk F hF=>?_⟩;subst hk;simp only [T.size] at hF;simp only [okT] at h;obtain ⟨F,rfl⟩:∃G,F=G+3:=⟨F-3,by omega⟩;rw [Vv]
  by_cases h3:op=3
  ·subst h3;rw [A4o];unfold E4;rw [At (eqT (show (T.un 3 r g a).node.Op=3 from rfl)),show (T.un 3 r g a).node.Args=[a.node] from rfl,Rm,i1 (F+2) (by omega),sbd]
  ·rw [A6f h3];exact A0n (p:=(T.un op r g a).node) (op:=13-op) h3 (by show op<8;omega) (A14 (op:=op) (op':=13-op) (by omega)) (A5g rfl (i2 (F+2) (by omega)))
 | bin op a b iha ihb =>
  intro k h;have hab:(∃q,okT q a)∧∃q,okT q b:=by
   cases k<;>simp only [okT] at h
   ·exact ⟨⟨_,h.2.1⟩,⟨_,h.2.2.1⟩⟩
   ·rcases h with h|h
    ·exact ⟨⟨_,h.2.1⟩,⟨_,h.2.2⟩⟩
    ·exact ⟨⟨_,h.2.2.1⟩,⟨_,h.2.2.2⟩⟩
  obtain ⟨⟨q,qa⟩,q',qb⟩:=hab;have hpl:∀F,2*(T.bin op a b).size+8≤F→Hr F (T.bin op a b).node=some ((T.bin op a b).pn false).node:=by
   intro F hF;simp only [T.size] at hF;obtain ⟨F,rfl⟩:∃G,F=G+4:=⟨F-4,by omega⟩;rw [Yq,pnB];exact Vb (fun e=>by have e:op=3:=e;cases k<;>simp only [okT] at h<;>omega) (A6p rfl ((iha q qa).1 (F+3) (by omega)) ((ihb q' qb).1 (F+3) (by omega)))
  refine ⟨hpl,fun hk F hF=>?_⟩;subst hk;obtain ⟨F,rfl⟩:∃G,F=G+4:=⟨F-4,by simp only [T.size] at hF;omega⟩;rw [Vv];simp only [okT] at h
  by_cases h8:8≤op
  ·have e:=hpl (F+3) (by omega);rw [pnB] at e;rw [A6e h8];unfold E4;rw [Aj (eqF (show (T.bin op a b).node.Op≠3 by show op≠3;omega)),At (dT (show (T.bin op a b).node.Op≥8 from h8)),e,sbd];rfl
  ·simp only [T.size] at hF;rcases h with h|h
   ·rw [A3m (by omega)];exact A0n (p:=(T.bin op a b).node) (op:=9-op) (by show op≠3;omega) (by show op<8;omega) (A14 (op:=op) (op':=9-op) (by omega)) (A5h rfl ((iha true h.2.1).2 rfl (F+3) (by omega)) ((ihb true h.2.2).2 rfl (F+3) (by omega)))
   ·omega
def plL (L:List (ByteArray×T)):List (ByteArray×T):=L.map fun p=>(p.1,p.2.pn false)
theorem A4n (L:List (ByteArray×T)):(plL L).length=L.length:=by simp [plL]
theorem A2f {L:List (ByteArray×T)} (h:GoodR L) {F:Nat} (hF:2000≤F):Ka F (rl L)=some (rl (plL L),0):=by
 have hlen:=h.len;have go:∀(n j:Nat),L.length+1≤n+j→j≤L.length→Lm F (rl L) n j (rl (plL (L.take j)))=some (rl (plL L),0):=by
  intro n
  induction n with
  | zero=>intro j h1 h2;omega
  | succ n ih =>
   intro j h1 h2;show Ll F (rl L) _ j _=_;unfold Ll;rw [Pk]
   by_cases hj:j<L.length
   ·have hp:=List.getElem?_eq_getElem hj;have hm:=List.getElem_mem hj;have htk:L.take (j+1)=L.take j++[L[j]]:=by rw [List.take_add_one,hp];rfl
    generalize L[j]=p at hp hm htk;have hsz:=Nat.le_trans (Sm hm) h.size;rw [At (dT (by omega)),Cz j _ rfl (Th hp),show Hr F (rlN p).When=_ from (A3l p.2 true (h.trees p hm).1).1 F (by omega),sbd,show apd 72 (rl (plL (L.take j))) [⟨(rlN p).Name,(p.2.pn false).node⟩]=some (rl (plL (L.take (j+1)))) by
     unfold apd;rw [if_pos (by simp [rl,plL];omega),htk];simp [rl,plL,rlN],sbd,ckb (by omega)]
    exact ih (j+1) (by omega) (by omega)
   ·rw [Aj (dF (by omega)),show j=L.length by omega,List.take_length];rfl
 unfold Ka;rw [Wm h (by omega),sbd,Aj (neF rfl)];exact go F 0 (by omega) (by omega)
section
variable {f:sift_Node→Option Bool} {p u v:sift_Node} {n:Nat}
end
section
variable {f:sift_Node→sift_Node→Option Bool} {p u v:sift_Node} {n:Nat}
end
end Go.Proofs.YtkjnafecmjakcaaGreatDoor
namespace Go.Proofs.YtkjnafecmjakcaaGreatDoor
open Go Go.RowKit Go.Eng
set_option maxRecDepth 10000
set_option linter.unusedVariables false
set_option linter.unusedSimpArgs false
theorem A13:Ma 4000=some true:=by kernel_rfl
end Go.Proofs.YtkjnafecmjakcaaGreatDoor
namespace Go.Proofs.YtkjnafecmjakcaaGreatDoor
open Go Go.RowKit Go.Eng
set_option maxRecDepth 10000
set_option linter.unusedVariables false
set_option linter.unusedSimpArgs false
def nameB (s:ByteArray):Bool:=(!(sEq s ⟨#[]⟩))&&(decide ((s.size:Int)≤12)&&(decide ((Qn s 0).getD 0≥97)&&(decide ((Qn s 0).getD 0≤122)&&!A3c s)))
theorem Yo (F:Nat) (s:ByteArray):beam_Name F s=some (nameB s):=by
 have hg:sEq s ⟨#[]⟩=false→Qn s 0=some ((Qn s 0).getD 0):=by
  intro h;have hs:s.size≠0:=by
   intro h0;have:s=⟨#[]⟩:=by
    cases s with
    | mk d =>
     have:d=#[]:=Array.eq_empty_of_size_eq_zero h0;rw [this]
   rw [S9.2 this] at h
   cases h
  unfold Qn;rw [if_pos (by omega)];rfl
 unfold beam_Name nameB G2
 cases h1:sEq s ⟨#[]⟩ with
 | true=>simp [gd]
 | false =>
  have e:=hg h1;generalize hu:(Qn s 0).getD 0=u at e ⊢;rw [e]
  by_cases h2:(s.size:Int)≤12
  ·by_cases h3:u≥97
   ·simp [gd,h2,h3]
   ·simp [gd,h2,h3]
  ·simp [gd,h2]
theorem A47 (n b0 b1 b2 b3:Nat) (h:128≤b0):128≤(Lib.decodeN n b0 b1 b2 b3).1:=by
 unfold Lib.decodeN
 repeat' split
 all_goals first|(simp only;omega)|omega
theorem A5r {s:ByteArray} {i:Nat} (h:(s.get! i).toNat<128):Utf8.decode s i=((s.get! i).toNat,1):=by
 rw [Lib.decode_at];unfold Lib.decodeN;rw [if_pos h]
theorem A5q {s:ByteArray} {i:Nat} (h:128≤(s.get! i).toNat):128≤(Utf8.decode s i).1:=by
 rw [Lib.decode_at];exact A47 _ _ _ _ _ h
theorem A3b {x:Nat} (h:128≤x):nmC x=true:=by
 unfold nmC;have h1:decide (x≤122)=false:=by simp;omega
 have h2:decide (x≤57)=false:=by simp;omega
 have h3:(x==95)=false:=by simp;omega
 rw [h1,h2,h3];simp
theorem Wg (s:ByteArray):∀(f pos:Nat),s.size≤pos+f→(0≤Lib.idxFuncFrom nmC true s f pos↔∃j,pos≤j∧j<s.size∧nmC (s.get! j).toNat=true):=by
 intro f
 induction f with
 | zero =>
  intro pos h;rw [Lib.idxFuncFrom_end nmC true s 0 pos (by omega)];constructor
  ·intro h;omega
  ·rintro ⟨j,h1,h2,_⟩;omega
 | succ f ih =>
  intro pos h;rw [Lib.idxFuncFrom]
  by_cases hp:pos<s.size
  ·rw [if_pos hp]
   by_cases hb:(s.get! pos).toNat<128
   ·rw [A5r hb];simp only
    by_cases hn:nmC (s.get! pos).toNat=true
    ·rw [if_pos hn];exact ⟨fun _=>⟨pos,Nat.le_refl _,hp,hn⟩,fun _=>by omega⟩
    ·rw [if_neg hn,ih (pos+1) (by omega)];constructor
     ·rintro ⟨j,h1,h2,h3⟩;exact ⟨j,by omega,h2,h3⟩
     ·rintro ⟨j,h1,h2,h3⟩;refine ⟨j,?_,h2,h3⟩;rcases Nat.lt_or_ge pos j with h4|h4
      ·omega
      ·obtain rfl:j=pos:=by omega
       exact absurd h3 hn
   ·rw [if_pos (A3b (A5q (by omega)))];exact ⟨fun _=>⟨pos,Nat.le_refl _,hp,A3b (by omega)⟩,fun _=>by omega⟩
  ·rw [if_neg hp];constructor
   ·intro h;omega
   ·rintro ⟨j,h1,h2,_⟩;omega
theorem A4e {s:ByteArray} {i:Nat} (h:i<s.size):s[i]=s.get! i:=by
 cases s with
 | mk d =>
  show d[i]=d[i]!;rw [getElem!_pos d i h]
theorem A1c {s:ByteArray} {i:Nat} (h:i<s.size):Qn s i=some (((s.get! i).toNat:Nat):Int):=by
 unfold Qn;rw [if_pos (by omega),Int.toNat_natCast,getElem!_pos s i h,A4e h]
theorem A24 (s:ByteArray):∀(m i f:Nat),s.size-i<m→i≤s.size→s.size≤1000000→s.size≤i+f→J3 s m i=some (!decide (0≤Lib.idxFuncFrom nmC true s f i)):=by
 intro m
 induction m with
 | zero=>intro i f h;omega
 | succ m ih =>
  intro i f h hi h9 hf;rw [J3,Nw]
  by_cases hb:i<s.size
  ·rw [At (dT (by omega)),A1c hb,sbd];have hx:=UInt8.toNat_lt (s.get! i);generalize hu:(s.get! i).toNat=u at *;have e:(bif (bif (bif (decide (((u:Nat):Int)<97)) then true else (decide (((u:Nat):Int)>122))) then (bif (decide (((u:Nat):Int)<48)) then true else (decide (((u:Nat):Int)>57))) else false) then (((u:Nat):Int) != 95) else false)=nmC u:=by
    unfold nmC;rw [Bool.eq_iff_iff];simp only [cond_eq_ite,Bool.if_true_left,Bool.and_eq_true,Bool.or_eq_true,decide_eq_true_eq,bne_iff_ne,ne_eq,Bool.not_eq_true',Bool.or_eq_false_iff,Bool.and_eq_false_iff,decide_eq_false_iff_not,beq_eq_false_iff_ne,Bool.if_false_right];omega
   rw [e]
   by_cases hn:nmC u=true
   ·rw [At hn,dT ((Wg s f i hf).2 ⟨i,Nat.le_refl _,hb,by rw [hu];exact hn⟩)];rfl
   ·rw [Aj (by simpa using hn),ckb (by omega),show ((i:Int)+1)=((i+1:Nat):Int) by omega,ih (i+1) f (by omega) (by omega) h9 (by omega)];rw [decide_eq_decide.2];rw [Wg s f (i+1) (by omega),Wg s f i hf];constructor
    ·rintro ⟨j,h1,h2,h3⟩;exact ⟨j,by omega,h2,h3⟩
    ·rintro ⟨j,h1,h2,h3⟩;refine ⟨j,?_,h2,h3⟩;rcases Nat.lt_or_ge i j with h4|h4
     ·omega
     ·obtain rfl:j=i:=by omega
      rw [hu] at h3;exact absurd h3 hn
  ·rw [Aj (dF (by omega)),Nx,dF]
   ·rfl
   ·rw [Wg s f i hf];rintro ⟨j,h1,h2,_⟩;omega
theorem A4v (s:ByteArray):sEq s ⟨#[]⟩=decide (s.size=0):=by
 unfold sEq
 cases s with
 | mk d =>
  show decide (d.toList=[])=decide (d.size=0);rw [decide_eq_decide];constructor
  ·intro h;have:=congrArg List.length h;simpa using this
  ·intro h;rw [Array.eq_empty_of_size_eq_zero h]
theorem A39 {F:Nat} (hF:100≤F) (s:ByteArray):Qc F s=some (nameB s):=by
 rw [Qc];unfold nameB A3c;rw [A4v]
 by_cases h1:s.size=0∨s.size>12
 ·have hc:(bif (decide (((s.size:Nat):Int)<1)) then true else (decide (((s.size:Nat):Int)>12)))=true:=by
   rcases h1 with h|h
   ·rw [dT (by omega)];rfl
   ·rw [dT (show ((s.size:Nat):Int)>12 by omega)];cases decide (((s.size:Nat):Int)<1)<;>rfl
  rw [hc,gdF (by rfl),sbd,At (c:=true) rfl,gdF (by rfl),sbd];simp only [cond_true];rcases h1 with h|h
  ·rw [dT h];rfl
  ·rw [dF (show ¬((s.size:Nat):Int)≤12 by omega)];cases decide (s.size=0)<;>rfl
 ·have hc:(bif (decide (((s.size:Nat):Int)<1)) then true else (decide (((s.size:Nat):Int)>12)))=false:=by
   rw [dF (by omega),dF (by omega)];rfl
  have hg:Qn s 0=some (((s.get! 0).toNat:Nat):Int):=A1c (i:=0) (by omega);rw [hc,gdT (by rfl),hg,sbd,Aj (c:=false) rfl,dF (show ¬s.size=0 by omega),dT (show ((s.size:Nat):Int)≤12 by omega)];rw [Option.getD_some];generalize hu:(((s.get! 0).toNat:Nat):Int)=u
  by_cases h2:u<97
  ·rw [dT h2,gdF (by rfl),sbd,At (c:=true) rfl,At (c:=true) rfl,dF (show ¬u≥97 by omega)];rfl
  ·rw [dF h2,gdT (by rfl),sbd,Aj (c:=false) rfl,dT (show u≥97 by omega)]
   by_cases h3:u>122
   ·rw [dT h3,At (c:=true) rfl,dF (show ¬u≤122 by omega)];rfl
   ·rw [dF h3,Aj (c:=false) rfl,dT (show u≤122 by omega),show (0:Int)=((0:Nat):Int) from rfl,A24 s F 0 s.size (by omega) (by omega) (by omega) (by omega)];rfl
end Go.Proofs.YtkjnafecmjakcaaGreatDoor
namespace Go.Proofs.YtkjnafecmjakcaaGreatDoor
open Go Go.RowKit Go.Eng
set_option maxRecDepth 10000
set_option linter.unusedVariables false
set_option linter.unusedSimpArgs false
mutual
def cv:ref04_Node→sift_Node
 | ⟨o,v,r,g,a⟩=>⟨o,v,r,g,cvL a⟩
def cvL:List ref04_Node→List sift_Node
 | []=>[]
 | x::l=>cv x::cvL l
end
mutual
def nds:ref04_Node→Nat
 | ⟨_,_,_,_,a⟩=>1+S5 a
def S5:List ref04_Node→Nat
 | []=>0
 | x::l=>nds x+S5 l
end
mutual
def dpt:ref04_Node→Nat
 | ⟨_,_,_,_,a⟩=>1+Wb a
def Wb:List ref04_Node→Nat
 | []=>0
 | x::l=>max (dpt x) (Wb l)
end
theorem Zb (n:ref04_Node):cv n=⟨n.Op,n.Value_,n.Rays,n.Gates,cvL n.Args⟩:=by cases n;rfl
theorem T7 (n:ref04_Node):nds n=1+S5 n.Args:=by cases n;rfl
theorem A2t (n:ref04_Node):dpt n=1+Wb n.Args:=by cases n;rfl
theorem Ux:∀l:List ref04_Node,(cvL l).length=l.length
 | []=>rfl
 | x::l=>by show (cvL l).length+1=_;rw [Ux l];rfl
theorem Uw:∀{l:List ref04_Node} {i:Nat} {x:ref04_Node},l[i]? = some x→(cvL l)[i]? = some (cv x)
 | [],i,x,h=>by simp at h
 | y::l,0,x,h=>by cases h;rfl
 | y::l,i+1,x,h=>by
  have:l[i]? = some x:=h;exact Uw (l:=l) this
theorem Q4:∀{l:List ref04_Node} {x:ref04_Node},x∈l→nds x≤S5 l
 | y::l,x,h=>by
  show nds x≤nds y+S5 l;rcases List.mem_cons.1 h with rfl|h
  ·omega
  ·have:=Q4 h;omega
theorem Wj (n:ref04_Node):1≤nds n:=by rw [T7];omega
theorem T6:∀l:List ref04_Node,l.length≤S5 l
 | []=>Nat.le_refl _
 | x::l=>by have:=T6 l;have:=Wj x;show l.length+1≤nds x+S5 l;omega
theorem Y5:∀{l:List ref04_Node} {i:Nat} {x:ref04_Node},l[i]? = some x→S5 (l.drop i)=nds x+S5 (l.drop (i+1)):=by
 intro l i x h;obtain ⟨h1,h2⟩:=List.getElem?_eq_some_iff.1 h;rw [List.drop_eq_getElem_cons h1,h2];rfl
theorem A3a {P:ref04_Node→Prop} (h:∀n,(∀x∈n.Args,P x)→P n):∀n,P n
 | ⟨o,v,r,g,a⟩=>h ⟨o,v,r,g,a⟩ fun x hx=>A3a h x
termination_by n=>SizeOf.sizeOf n
decreasing_by
 have h9:=List.sizeOf_lt_of_mem hx;simp +arith at *;omega
theorem A0b:∀(n:ref04_Node),dpt n≤nds n:=by
 refine A3a fun n ih=>?_;have go:∀l:List ref04_Node,(∀x∈l,dpt x≤nds x)→Wb l≤S5 l:=by
  intro l
  induction l with
  | nil=>intro _;exact Nat.le_refl _
  | cons x l ih =>
   intro h;show max (dpt x) (Wb l)≤nds x+S5 l;have:=h x (by simp);have:=ih fun y hy=>h y (by simp [hy]);omega
 have:=go n.Args ih;have e1:=A2t n;have e2:=T7 n;omega
def cnt (m:Nat) (n:ref04_Node):Nat:=min (nds n) (m+1)
theorem Zm:∀(m F:Nat) (n:ref04_Node),m≤1000000→m+4≤F→Dm F n m=some (cnt m n:Int):=by
 intro m
 induction m using Nat.strongRecOn with
 | _ m ih =>
  intro F n hm hF;obtain ⟨F,rfl⟩:∃G,F=G+1:=⟨F-1,by omega⟩;show Gp (Dm F) n m F 1 0=_;have go:∀(k i c:Nat),i+1≤c→m+2≤k+c→c≤m+1→i≤n.Args.length→Gp (Dm F) n m k c i=some ((min (c+S5 (n.Args.drop i)) (m+1):Nat):Int):=by
   intro k
   induction k with
   | zero=>intro i c h0 h1 h2;omega
   | succ k ihk =>
    intro i c h0 h1 h2 h3;show K0 (Dm F) n m _ c i=_;unfold K0 Mu
    by_cases hi:i<n.Args.length
    ·by_cases hc:c≤m
     ·have hx:=List.getElem?_eq_getElem hi;generalize n.Args[i]=x at hx;have hs:=ih (m-c) (by omega) F x (by omega) (by omega);rw [show ((m-c:Nat):Int)=(m:Int)-c by omega] at hs;have hcn:cnt (m-c) x≤m-c+1:=by unfold cnt;omega
      have hc1:1≤cnt (m-c) x:=by have:=Wj x;unfold cnt;omega
      rw [dT (show (i:Int)<((n.Args.length:Nat):Int) by omega),dT (show (c:Int)≤m by omega),At (c:=bif true then true else false) rfl,Cz i x rfl hx,ckb (by omega),hs,sbd,ckb (by omega),ckb (by omega),Y5 hx];have:=ihk (i+1) (c+cnt (m-c) x) (by omega) (by omega) (by omega) (by omega);rw [show ((c:Int)+(cnt (m-c) x:Nat))=((c+cnt (m-c) x:Nat):Int) by omega,show (i:Int)+1=((i+1:Nat):Int) by omega,this]
      congr 2
      unfold cnt;omega
     ·rw [dT (show (i:Int)<((n.Args.length:Nat):Int) by omega),dF (show ¬(c:Int)≤m by omega),Aj (c:=bif true then false else false) rfl]
      congr 2
      omega
    ·rw [dF (show ¬(i:Int)<((n.Args.length:Nat):Int) by omega),Aj (c:=bif false then decide ((c:Int)≤m) else false) rfl,List.drop_eq_nil_of_le (by omega)]
     congr 2
     show c=min (c+0) (m+1);omega
  have:=go F 0 1 (by omega) (by omega) (by omega) (by omega);rw [List.drop_zero] at this;rw [show (1:Int)=((1:Nat):Int) from rfl,show (0:Int)=((0:Nat):Int) from rfl,this,cnt,T7]
theorem A2o:∀(m F:Nat) (n:ref04_Node),m≤1000000→m+4≤F→Cc F (cv n) m=some (cnt m n:Int):=by
 intro m
 induction m using Nat.strongRecOn with
 | _ m ih =>
  intro F n hm hF;obtain ⟨F,rfl⟩:∃G,F=G+1:=⟨F-1,by omega⟩;rw [Zb];show By (Cc F) ⟨n.Op,n.Value_,n.Rays,n.Gates,cvL n.Args⟩ m F 0 1=_;have hl:=Ux n.Args;have go:∀(k i c:Nat),i+1≤c→m+2≤k+c→c≤m+1→i≤n.Args.length→By (Cc F) ⟨n.Op,n.Value_,n.Rays,n.Gates,cvL n.Args⟩ m k i c=some ((min (c+S5 (n.Args.drop i)) (m+1):Nat):Int):=by
   intro k
   induction k with
   | zero=>intro i c h0 h1 h2;omega
   | succ k ihk =>
    intro i c h0 h1 h2 h3;show Dn (Cc F) ⟨n.Op,n.Value_,n.Rays,n.Gates,cvL n.Args⟩ m _ i c=_;unfold Dn Hw;dsimp only;rw [hl]
    by_cases hi:i<n.Args.length
    ·have hx:=List.getElem?_eq_getElem hi;generalize n.Args[i]=x at hx
     by_cases hc:c≤m
     ·have hs:=ih (m-c) (by omega) F x (by omega) (by omega);rw [show ((m-c:Nat):Int)=(m:Int)-c by omega] at hs;have hcn:cnt (m-c) x≤m-c+1:=by unfold cnt;omega
      have hc1:1≤cnt (m-c) x:=by have:=Wj x;unfold cnt;omega
      rw [At (dT (by omega)),Cz i (cv x) rfl (Uw hx),Aj (dF (by omega)),ckb (by omega),hs,sbd,ckb (by omega),ckb (by omega),Y5 hx];have:=ihk (i+1) (c+cnt (m-c) x) (by omega) (by omega) (by omega) (by omega);rw [show ((c:Int)+(cnt (m-c) x:Nat))=((c+cnt (m-c) x:Nat):Int) by omega,show (i:Int)+1=((i+1:Nat):Int) by omega,this]
      congr 2
      unfold cnt;omega
     ·rw [At (dT (by omega)),Cz i (cv x) rfl (Uw hx),At (dT (by omega))]
      congr 2
      omega
    ·rw [Aj (dF (by omega)),List.drop_eq_nil_of_le (by omega)]
     congr 2
     show c=min (c+0) (m+1);omega
  have:=go F 0 1 (by omega) (by omega) (by omega) (by omega);rw [List.drop_zero] at this;rw [show (1:Int)=((1:Nat):Int) from rfl,show (0:Int)=((0:Nat):Int) from rfl,this,cnt,T7]
theorem Xx:∀{l:List ref04_Node} {i:Nat} {x:ref04_Node},l[i]? = some x→Wb (l.drop i)=max (dpt x) (Wb (l.drop (i+1))):=by
 intro l i x h;obtain ⟨h1,h2⟩:=List.getElem?_eq_some_iff.1 h;rw [List.drop_eq_getElem_cons h1,h2];rfl
theorem A2r:∀(F:Nat) (n:ref04_Node),nds n≤1000000→nds n+3≤F→F4 F n=some (dpt n:Int)∧Dk F (cv n)=some (dpt n:Int):=by
 intro F
 induction F with
 | zero=>intro n _ h;omega
 | succ F ih =>
  intro n h1 h2;have hn:=T7 n;have hal:=T6 n.Args;have hd:=A2t n;have hsub:∀(i:Nat) x,n.Args[i]? = some x→F4 F x=some (dpt x:Int)∧Dk F (cv x)=some (dpt x:Int):=by
   intro i x hx;have:=Q4 (List.mem_of_getElem? hx);exact ih x (by omega) (by omega)
  constructor
  ·have go:∀(k i c:Nat),n.Args.length+1≤k+i→i≤n.Args.length→c≤1000000→Gn (F4 F) n k c i=some ((1+max c (Wb (n.Args.drop i)):Nat):Int):=by
    intro k
    induction k with
    | zero=>intro i c h0 h1;omega
    | succ k ihk =>
     intro i c h0 h3 h4;show Jz (F4 F) n _ c i=_;unfold Jz Mt
     by_cases hi:i<n.Args.length
     ·have hx:=List.getElem?_eq_getElem hi;generalize n.Args[i]=x at hx;have hb:=A0b x;have:=Q4 (List.mem_of_getElem? hx);rw [At (dT (by omega)),Cz i x rfl hx,(hsub i x hx).1,sbd,ckb (by omega),Xx hx];have:=ihk (i+1) (max c (dpt x)) (by omega) (by omega) (by omega);rw [show (if (dpt x:Int)>c then (dpt x:Int) else c)=((max c (dpt x):Nat):Int) by split<;>omega,show (i:Int)+1=((i+1:Nat):Int) by omega,this]
      congr 2
      omega
     ·rw [Aj (dF (by omega)),List.drop_eq_nil_of_le (by omega),ckb (by omega)]
      congr 1
      show (1:Int)+c=((1+max c 0:Nat):Int);omega
   have:=go F 0 0 (by omega) (by omega) (by omega);rw [List.drop_zero] at this;show Gn (F4 F) n F 0 0=_;rw [show (0:Int)=((0:Nat):Int) from rfl,this]
   congr 2;omega
  ·have hl:=Ux n.Args;rw [Zb];have go:∀(k i c:Nat),n.Args.length+1≤k+i→i≤n.Args.length→c≤1000000→D0 (Dk F) ⟨n.Op,n.Value_,n.Rays,n.Gates,cvL n.Args⟩ k c i=some ((1+max c (Wb (n.Args.drop i)):Nat):Int):=by
    intro k
    induction k with
    | zero=>intro i c h0 h1;omega
    | succ k ihk =>
     intro i c h0 h3 h4;show G0 (Dk F) ⟨n.Op,n.Value_,n.Rays,n.Gates,cvL n.Args⟩ _ c i=_;unfold G0 My;dsimp only;rw [hl]
     by_cases hi:i<n.Args.length
     ·have hx:=List.getElem?_eq_getElem hi;generalize n.Args[i]=x at hx;have hb:=A0b x;have:=Q4 (List.mem_of_getElem? hx);rw [At (dT (by omega)),Cz i (cv x) rfl (Uw hx),(hsub i x hx).2,sbd,ckb (by omega),Xx hx];have:=ihk (i+1) (max c (dpt x)) (by omega) (by omega) (by omega);rw [show (if (dpt x:Int)>c then (dpt x:Int) else c)=((max c (dpt x):Nat):Int) by split<;>omega,show (i:Int)+1=((i+1:Nat):Int) by omega,this]
      congr 2
      omega
     ·rw [Aj (dF (by omega)),List.drop_eq_nil_of_le (by omega),ckb (by omega)]
      congr 1
      show (c:Int)+1=((1+max c 0:Nat):Int);omega
   have:=go F 0 0 (by omega) (by omega) (by omega);rw [List.drop_zero] at this;show D0 (Dk F) ⟨n.Op,n.Value_,n.Rays,n.Gates,cvL n.Args⟩ F 0 0=_;rw [show (0:Int)=((0:Nat):Int) from rfl,this]
   congr 2;omega
theorem A2q {l:List ref04_Node} {i:Nat} {x:ref04_Node} (h:l[i]? = some x):cvL (l.take (i+1))=cvL (l.take i)++[cv x]:=by
 rw [List.take_add_one,h];have:∀(a:List ref04_Node) (y:ref04_Node),cvL (a++[y])=cvL a++[cv y]:=by
  intro a y
  induction a with
  | nil=>rfl
  | cons z a ih=>show cv z::cvL (a++[y])=_;rw [ih];rfl
 exact this _ _
theorem A4l:∀(F:Nat) (n:ref04_Node),nds n≤1000000→nds n+3≤F→Jm F n=some (cv n):=by
 intro F
 induction F with
 | zero=>intro n _ h;omega
 | succ F ih =>
  intro n h1 h2;have hn:=T7 n;have hal:=T6 n.Args;have go:∀(k i:Nat),n.Args.length+1≤k+i→i≤n.Args.length→Lf (Jm F) n k (cvL (n.Args.take i)) i=some (cv n):=by
   intro k
   induction k with
   | zero=>intro i h0 h1;omega
   | succ k ihk =>
    intro i h0 h3;show Le (Jm F) n _ _ i=_;unfold Le Nv
    by_cases hi:i<n.Args.length
    ·have hx:=List.getElem?_eq_getElem hi;generalize n.Args[i]=x at hx;have:=Q4 (List.mem_of_getElem? hx);rw [At (dT (by omega)),Cz i x rfl hx,ih x (by omega) (by omega),sbd,show apd 56 (cvL (n.Args.take i)) [cv x]=some (cvL (n.Args.take (i+1))) by
      unfold apd;rw [if_pos (by rw [Ux];simp;omega),A2q hx],sbd,ckb (by omega)]
     exact ihk (i+1) (by omega) (by omega)
    ·rw [Aj (dF (by omega)),List.take_of_length_le (by omega),Zb]
  exact go F 0 (by omega) (by omega)
def cvR (p:ref04_Rule):sift_Rule:=⟨p.Name,cv p.When⟩
theorem A3v {l:List ref04_Rule} (hl:l.length≤1000) (hn:∀p∈l,nds p.When≤1000) {F:Nat} (hF:2000≤F):Qq F l=some (l.map cvR):=by
 have go:∀(k i:Nat),l.length+1≤k+i→i≤l.length→Jo F l k ((l.take i).map cvR) i=some (l.map cvR):=by
  intro k
  induction k with
  | zero=>intro i h0 h1;omega
  | succ k ihk =>
   intro i h0 h3;show Jn F l _ _ i=_;unfold Jn Mi
   by_cases hi:i<l.length
   ·have hx:=List.getElem?_eq_getElem hi;have hm:=List.getElem_mem hi;generalize l[i]=x at hx hm;rw [At (dT (by omega)),Cz i x rfl hx,Cz i x rfl hx,A4l F x.When (by have:=hn x hm;omega) (by have:=hn x hm;omega),sbd,show apd 72 ((l.take i).map cvR) [(⟨x.Name,cv x.When⟩:sift_Rule)]=some ((l.take (i+1)).map cvR) by
     unfold apd;rw [if_pos (by simp;omega),List.take_add_one,hx,List.map_append];rfl,sbd,ckb (by omega)]
    exact ihk (i+1) (by omega) (by omega)
   ·rw [Aj (dF (by omega)),List.take_of_length_le (by omega)]
 exact go F 0 (by omega) (by omega)
end Go.Proofs.YtkjnafecmjakcaaGreatDoor
namespace Go.Proofs.YtkjnafecmjakcaaGreatDoor
open Go Go.RowKit Go.Eng
set_option maxRecDepth 10000
set_option linter.unusedVariables false
set_option linter.unusedSimpArgs false
theorem A36 {L:List ByteArray} {p:ByteArray} (hL:L.length≤100) (h:∀x∈L,sEq p x=false):∀(n j:Nat),L.length+1≤n+j→j≤L.length→Bp L p n j=some (-1):=by
 intro n
 induction n with
 | zero=>intro j h1 h2;omega
 | succ n ih =>
  intro j h1 h2;show Ca L p _ j=_;unfold Ca
  by_cases hj:j<L.length
  ·rw [At (dT (by omega)),Cz j _ rfl (List.getElem?_eq_getElem hj),Aj (h _ (List.getElem_mem hj)),ckb (by omega)];exact ih (j+1) (by omega) (by omega)
  ·rw [Aj (dF (by omega))];rfl
section
variable {F:Nat} {P:Ac} {ops:List Int}
end
end Go.Proofs.YtkjnafecmjakcaaGreatDoor
namespace Go.Proofs.YtkjnafecmjakcaaGreatDoor
open Go Go.RowKit Go.Eng
set_option maxRecDepth 10000
set_option linter.unusedVariables false
set_option linter.unusedSimpArgs false
theorem Vd {op:Int} (h:1≤op∧op≤27) (F:Nat):G3 F op=some (tb (wd op)):=by
 have hl:op.toNat<B8.1.length:=by rw [B8.2];omega
 have e:wd op=(B8.1[op.toNat]).data.toList:=by unfold wd;rw [List.getElem?_eq_getElem hl];rfl
 unfold G3;rw [Aj (Vx (dF (by omega)) (dF (by omega)))];refine (Cz (l:=B8.1) op.toNat _ (by omega) (List.getElem?_eq_getElem hl)).trans ?_;rw [e]
 congr 1
theorem Y0 {l:List UInt8} {F:Nat} (hF:30≤F) {a b:Int} (hab:1≤a∧a≤b∧b≤27) (h:∀op:Int,a≤op→op≤b→l≠wd op):Kx F (tb l) a b=some 0:=by
 unfold Kx;have hlen:B8.1.length=28:=B8.2;rw [ckb (by omega),show T2 B8.1 a (b+1)=some ((B8.1.drop a.toNat).take ((b+1).toNat-a.toNat)) by unfold T2;rw [if_pos (by omega)],sbd];unfold Dj;rw [show Bp ((B8.1.drop a.toNat).take ((b+1).toNat-a.toNat)) (tb l) F 0=some (-1) from A36 (by simp [hlen];omega) (by
  intro x hx;obtain ⟨i,hi,e⟩:=List.mem_iff_getElem.1 hx;simp only [List.length_take,List.length_drop,hlen] at hi;have hx2:B8.1[a.toNat+i]? = some x:=by
   rw [←e,List.getElem_take,List.getElem_drop];exact List.getElem?_eq_getElem _
  have hw:wd (a+i)=x.data.toList:=by
   unfold wd;rw [show (a+(i:Int)).toNat=a.toNat+i by omega,hx2];rfl
  have:=h (a+i) (by omega) (by omega);unfold sEq;refine dF fun e=>this ?_;rw [hw,←e];simp [tb]) F 0 (by simp [hlen];omega) (by omega),sbd,Aj (c:=bif decide ((-1:Int)≥0) then (!sEq (tb l) (⟨#[]⟩:ByteArray)) else false) rfl]
theorem A3s {l:List UInt8} (h:∀op:Int,1≤op→op≤25→wd op≠[]→l≠wd op) (G:Nat):∀(n:Nat) (op:Int),1≤op→op≤26→27-op.toNat≤n→J5 G (tb l) 25 n op=some 0:=by
 intro n
 induction n with
 | zero=>intro op h1 h2 h3;omega
 | succ n ih =>
  intro op h1 h2 h3;show Lj G (tb l) 25 _ op=_;unfold Lj Ny
  by_cases ho:op≤25
  ·rw [At (dT ho),Vd (by omega),sbd,show (⟨#[]⟩:ByteArray)=tb [] from rfl,A3x]
   by_cases hw:wd op=[]
   ·rw [dT hw,gdF (g:=(!true)==true&&true) rfl,sbd,Aj (c:=bif !true then sEq default (tb l) else false) rfl,ckb (by omega)];exact ih (op+1) (by omega) (by omega) (by omega)
   ·rw [dF hw,gdT (g:=(!false)==true&&true) rfl,sbd,A3x,dF (fun e=>h op h1 ho hw e.symm),Aj (c:=bif !false then false else false) rfl,ckb (by omega)];exact ih (op+1) (by omega) (by omega) (by omega)
  ·rw [Aj (dF ho)]
theorem A53 (s:ByteArray):∃b,∀F,30≤F→sift_word F s=some b∧Qh F s=some b:=by
 obtain ⟨l,rfl⟩:=A7q s
 by_cases h:∃op:Int,1≤op∧op≤25∧wd op≠[]∧l=wd op
 ·obtain ⟨op,h1,h2,h3,rfl⟩:=h;obtain ⟨b,hb⟩:∃b:Bool,b=decide (op<8∨13<op):=⟨_,rfl⟩;have key:op=1∨op=2∨op=3∨op=4∨op=5∨op=6∨op=7∨op=8∨op=9∨op=10∨op=11∨op=12∨op=13∨op=14∨op=15∨op=16∨op=17∨op=18∨op=19∨op=20∨op=21∨op=22∨op=23∨op=24∨op=25:=by omega
  rcases key with rfl|rfl|rfl|rfl|rfl|rfl|rfl|rfl|rfl|rfl|rfl|rfl|rfl|rfl|rfl|rfl|rfl|rfl|rfl|rfl|rfl|rfl|rfl|rfl|rfl
  case inr.inr.inr.inr.inr.inr.inr.inr.inr.inr.inr.inr.inr.inl=>exact absurd rfl h3
  all_goals
   refine ⟨b,fun F hF=>?_⟩;subst hb;obtain ⟨F,rfl⟩:∃G,F=G+30:=⟨F-30,by omega⟩;exact ⟨rfl,rfl⟩
 ·have hn:∀op:Int,1≤op→op≤25→wd op≠[]→l≠wd op:=fun op h1 h2 h3 e=>h ⟨op,h1,h2,h3,e⟩;have hne:∀op:Int,(1≤op∧op≤7)∨(15≤op∧op≤25)→wd op≠[]:=by
   have k:∀i:Fin 28,((1≤i.val∧i.val≤7)∨(15≤i.val∧i.val≤25))→wd (i.val:Int)≠[]:=by decide
   intro op ho;have:=k ⟨op.toNat,by omega⟩ (by dsimp only;omega)
   rwa [show ((op.toNat:Nat):Int)=op by omega] at this
  refine ⟨false,fun F hF=>⟨?_,?_⟩⟩
  ·unfold sift_word;rw [Y0 (by omega) (by omega) (fun op a b=>hn op (by omega) (by omega) (hne op (.inl ⟨a,b⟩))),sbd,gdT (g:=(decide ((0:Int)>0))==false&&true) rfl,Y0 (by omega) (by omega) (fun op a b=>hn op (by omega) (by omega) (hne op (.inr ⟨a,b⟩))),sbd];rfl
  ·unfold Qh S8;rw [show J5 F (tb l) 25 F 1=some 0 from A3s hn F F 1 (by omega) (by omega) (by omega),sbd];rfl
def T.rnode:T→ref04_Node
 | .leaf op v=>⟨op,v,0,0,[]⟩
 | .un op r g a=>⟨op,0,r,g,[a.rnode]⟩
 | .bin op a b=>⟨op,0,0,0,[a.rnode,b.rnode]⟩
theorem Zc:∀t:T,cv t.rnode=t.node:=by
 intro t
 induction t with
 | leaf op v=>rfl
 | un op r g a ih=>show sift_Node.mk op 0 r g [cv a.rnode]=_;rw [ih];rfl
 | bin op a b iha ihb=>show sift_Node.mk op 0 0 0 [cv a.rnode,cv b.rnode]=_;rw [iha,ihb];rfl
def VT (n:ref04_Node):Prop:=∃t,okT true t∧n=t.rnode
def VF (n:ref04_Node):Prop:=∃t,okT false t∧n=t.rnode
theorem VT.inv {n:ref04_Node} (h:VT n):n.Value_=0∧(((n.Op=1∨n.Op=2)∧n.Rays=0∧n.Gates=0∧n.Args=[])∨((n.Op=3∧n.Rays=0∧n.Gates=0∨(n.Op=6∨n.Op=7)∧0≤n.Rays∧n.Rays≤3∧0≤n.Gates∧n.Gates≤3)∧∃x,n.Args=[x]∧VT x) ∨
  ((n.Op=4∨n.Op=5)∧n.Rays=0∧n.Gates=0∧∃x y,n.Args=[x,y]∧VT x∧VT y)∨((8≤n.Op∧n.Op≤13)∧n.Rays=0∧n.Gates=0∧∃x y,n.Args=[x,y]∧VF x∧VF y)):=by
 obtain ⟨t,h,rfl⟩:=h
 cases t with
 | leaf op v=>simp only [okT] at h;exact ⟨h.2,.inl ⟨h.1,rfl,rfl,rfl⟩⟩
 | un op r g a=>simp only [okT] at h;exact ⟨rfl,.inr (.inl ⟨h.1,_,rfl,a,h.2,rfl⟩)⟩
 | bin op a b =>
  simp only [okT] at h;rcases h with h|h
  ·exact ⟨rfl,.inr (.inr (.inl ⟨h.1,rfl,rfl,_,_,rfl,⟨a,h.2.1,rfl⟩,b,h.2.2,rfl⟩))⟩
  ·exact ⟨rfl,.inr (.inr (.inr ⟨⟨h.1,h.2.1⟩,rfl,rfl,_,_,rfl,⟨a,h.2.2.1,rfl⟩,b,h.2.2.2,rfl⟩))⟩
theorem VF.inv {n:ref04_Node} (h:VF n):((n.Op=14∧0≤n.Value_∧n.Value_≤1000000000∨15≤n.Op∧n.Op≤24∧n.Value_=0)∧n.Rays=0∧n.Gates=0∧n.Args=[]) ∨
  (n.Value_=0∧n.Op=25∧(0≤n.Rays∧n.Rays≤3∧0≤n.Gates∧n.Gates≤3)∧∃x,n.Args=[x]∧VT x) ∨
  (n.Value_=0∧(n.Op=26∨n.Op=27)∧n.Rays=0∧n.Gates=0∧∃x y,n.Args=[x,y]∧VF x∧VF y∧y.Op<26):=by
 obtain ⟨t,h,rfl⟩:=h
 cases t with
 | leaf op v=>simp only [okT] at h;exact .inl ⟨h,rfl,rfl,rfl⟩
 | un op r g a=>simp only [okT] at h;exact .inr (.inl ⟨rfl,h.1.1,h.1.2,_,rfl,a,h.2,rfl⟩)
 | bin op a b =>
  simp only [okT] at h;refine .inr (.inr ⟨rfl,h.1,rfl,rfl,_,_,rfl,⟨a,h.2.1,rfl⟩,⟨b,h.2.2.1,rfl⟩,?_⟩);have:=h.2.2.2
  cases b<;>exact this
theorem Ui {n:ref04_Node} {o v r g:Int} {a:List ref04_Node} (h1:n.Op=o) (h2:n.Value_=v) (h3:n.Rays=r) (h4:n.Gates=g) (h5:n.Args=a):n=⟨o,v,r,g,a⟩:=by
 cases n;subst h1 h2 h3 h4 h5;rfl
theorem VT.leaf {n:ref04_Node} (h1:n.Op=1∨n.Op=2) (h2:n.Value_=0) (h3:n.Rays=0) (h4:n.Gates=0) (h5:n.Args=[]):VT n :=
 ⟨.leaf n.Op 0,by simp only [okT];exact ⟨h1,trivial⟩,Ui rfl h2 h3 h4 h5⟩
theorem VT.un {n x:ref04_Node} (h1:n.Op=3∧n.Rays=0∧n.Gates=0∨(n.Op=6∨n.Op=7)∧0≤n.Rays∧n.Rays≤3∧0≤n.Gates∧n.Gates≤3) (h2:n.Value_=0) (h5:n.Args=[x]) (hx:VT x):VT n:=by
 obtain ⟨t,ht,rfl⟩:=hx;exact ⟨.un n.Op n.Rays n.Gates t,by simp only [okT];exact ⟨h1,ht⟩,Ui rfl h2 rfl rfl h5⟩
theorem VT.bin {n x y:ref04_Node} (h1:n.Op=4∨n.Op=5) (h2:n.Value_=0) (h3:n.Rays=0) (h4:n.Gates=0) (h5:n.Args=[x,y]) (hx:VT x) (hy:VT y):VT n:=by
 obtain ⟨t,ht,rfl⟩:=hx;obtain ⟨u,hu,rfl⟩:=hy;exact ⟨.bin n.Op t u,by simp only [okT];exact .inl ⟨h1,ht,hu⟩,Ui rfl h2 h3 h4 h5⟩
theorem VT.cmp {n x y:ref04_Node} (h1:8≤n.Op∧n.Op≤13) (h2:n.Value_=0) (h3:n.Rays=0) (h4:n.Gates=0) (h5:n.Args=[x,y]) (hx:VF x) (hy:VF y):VT n:=by
 obtain ⟨t,ht,rfl⟩:=hx;obtain ⟨u,hu,rfl⟩:=hy;exact ⟨.bin n.Op t u,by simp only [okT];exact .inr ⟨h1.1,h1.2,ht,hu⟩,Ui rfl h2 h3 h4 h5⟩
theorem VF.leaf {n:ref04_Node} (h1:n.Op=14∧0≤n.Value_∧n.Value_≤1000000000∨15≤n.Op∧n.Op≤24∧n.Value_=0) (h3:n.Rays=0) (h4:n.Gates=0) (h5:n.Args=[]):VF n :=
 ⟨.leaf n.Op n.Value_,by simp only [okT];exact h1,Ui rfl rfl h3 h4 h5⟩
theorem VF.un {n x:ref04_Node} (h0:n.Value_=0) (h1:n.Op=25) (h2:0≤n.Rays∧n.Rays≤3∧0≤n.Gates∧n.Gates≤3) (h5:n.Args=[x]) (hx:VT x):VF n:=by
 obtain ⟨t,ht,rfl⟩:=hx;exact ⟨.un n.Op n.Rays n.Gates t,by simp only [okT];exact ⟨⟨h1,h2⟩,ht⟩,Ui rfl h0 rfl rfl h5⟩
theorem VF.bin {n x y:ref04_Node} (h0:n.Value_=0) (h1:n.Op=26∨n.Op=27) (h3:n.Rays=0) (h4:n.Gates=0) (h5:n.Args=[x,y]) (hx:VF x) (hy:VF y) (hy2:y.Op<26):VF n:=by
 obtain ⟨t,ht,rfl⟩:=hx;obtain ⟨u,hu,rfl⟩:=hy;exact ⟨.bin n.Op t u,by simp only [okT];exact ⟨h1,ht,hu,by cases u<;>exact hy2⟩,Ui rfl h0 h3 h4 h5⟩
open Classical in
theorem A3p:∀(F:Nat) (n:ref04_Node),nds n≤100000→nds n+5≤F→Ci F n=some (decide (VT n))∧Fz F n=some (decide (VF n)):=by
 intro F
 induction F with
 | zero=>intro n _ h;omega
 | succ F ih =>
  intro n h1 h2;have hn:=T7 n;have hal:=T6 n.Args;have hsub:∀(i:Nat) x,n.Args[i]? = some x→Ci F x=some (decide (VT x))∧Fz F x=some (decide (VF x)):=by
   intro i x hx;have:=Q4 (List.mem_of_getElem? hx);exact ih x (by omega) (by omega)
  constructor
  ·show Fw F (Ci F) (Fz F) n=_;have l4:∀(k i:Nat),n.Args.length+1≤k+i→i≤n.Args.length→Cq (Ci F) (Fz F) n k i=some (decide (∀x∈n.Args.drop i,if n.Op≥8 then VF x else VT x)):=by
    intro k
    induction k with
    | zero=>intro i h0 h3;omega
    | succ k ihk =>
     intro i h0 h3;show Dy (Ci F) (Fz F) n _ i=_;unfold Dy Fx
     by_cases hi:i<n.Args.length
     ·have hx:=List.getElem?_eq_getElem hi;have hdr:=List.drop_eq_getElem_cons hi;generalize n.Args[i]=x at hx hdr;obtain ⟨s1,s2⟩:=hsub i x hx;have hk:=ihk (i+1) (by omega) (by omega);rw [show ((i+1:Nat):Int)=(i:Int)+1 by omega] at hk;rw [At (dT (by omega)),hdr]
      by_cases h8:n.Op≥8
      ·rw [At (dT h8),Cz i x rfl hx,s2,sbd]
       by_cases hv:VF x
       ·rw [dT hv,Aj (c:=!true) rfl,Aj (dF (by omega)),ckb (by omega),hk]
        congr 1
        rw [decide_eq_decide];simp only [List.mem_cons,forall_eq_or_imp,if_pos h8,hv,true_and]
       ·rw [dF hv,At (c:=!false) rfl]
        congr 1
        refine (dF fun h=>hv ?_).symm;have:=h x (by simp)
        rwa [if_pos h8] at this
      ·rw [Aj (dF h8),At (dT (by omega)),Cz i x rfl hx,s1,sbd]
       by_cases hv:VT x
       ·rw [dT hv,Aj (c:=!true) rfl,ckb (by omega),hk]
        congr 1
        rw [decide_eq_decide];simp only [List.mem_cons,forall_eq_or_imp,if_neg h8,hv,true_and]
       ·rw [dF hv,At (c:=!false) rfl]
        congr 1
        refine (dF fun h=>hv ?_).symm;have:=h x (by simp)
        rwa [if_neg h8] at this
     ·rw [Aj (dF (by omega)),List.drop_eq_nil_of_le (by omega)];simp
   have l40:=l4 F 0 (by omega) (by omega);rw [List.drop_zero] at l40;have hg:((bif (bif (bif (bif (bif (bif (decide (n.Op<1)) then true else (decide (n.Op>13))) then true else (n.Value_ != 0)) then true else (bif (bif (n.Op != 6) then (n.Op != 7) else false) then (bif (n.Rays != 0) then true else (n.Gates != 0)) else false)) then true else (!(Bj n.Rays 0 3))) then true else (!(Bj n.Gates 0 3))) then true else false)=true)↔(n.Op<1∨n.Op>13∨n.Value_≠0∨(n.Op≠6∧n.Op≠7∧(n.Rays≠0∨n.Gates≠0))∨¬(0≤n.Rays∧n.Rays≤3)∨¬(0≤n.Gates∧n.Gates≤3)):=by
    unfold Bj;simp [cond_eq_ite];omega
   unfold Fw Dz E0;generalize (bif (bif (bif (bif (bif (decide (n.Op<1)) then true else (decide (n.Op>13))) then true else (n.Value_ != 0)) then true else (bif (bif (n.Op != 6) then (n.Op != 7) else false) then (bif (n.Rays != 0) then true else (n.Gates != 0)) else false)) then true else (!(Bj n.Rays 0 3))) then true else (!(Bj n.Gates 0 3)))=b at hg ⊢
   cases b
   ·rw [Aj rfl];have hg':¬(n.Op<1∨n.Op>13∨n.Value_≠0∨(n.Op≠6∧n.Op≠7∧(n.Rays≠0∨n.Gates≠0))∨¬(0≤n.Rays∧n.Rays≤3)∨¬(0≤n.Gates∧n.Gates≤3)):=fun h=>by have:=hg.2 h;cases this
    have fin:∀w:Nat,(w=if n.Op≤2 then 0 else if n.Op=3∨n.Op=6∨n.Op=7 then 1 else 2)→(bif (((n.Args.length:Nat):Int) != (w:Int)) then (some false) else (Cq (Ci F) (Fz F) n F 0))=some (decide (VT n)):=by
     intro w hw
     by_cases hl:n.Args.length=w
     ·rw [Aj (neF (by omega)),show Cq (Ci F) (Fz F) n F 0=_ from l40]
      congr 1
      rw [decide_eq_decide];constructor
      ·intro h
       match ha:n.Args,hl with
       | [],hl =>
        have:w=0:=hl.symm;have hop:n.Op≤2:=by split at hw<;>(try split at hw)<;>omega
        exact VT.leaf (by omega) (by omega) (by omega) (by omega) ha
       | [x],hl =>
        have hw1:w=1:=hl.symm;have hop:n.Op=3∨n.Op=6∨n.Op=7:=by split at hw<;>(try split at hw)<;>omega
        rw [ha] at h;have:=h x (by simp);rw [if_neg (by omega)] at this;exact VT.un (by omega) (by omega) ha this
       | [x,y],hl =>
        have hw1:w=2:=hl.symm;have hop:n.Op=4∨n.Op=5∨8≤n.Op:=by split at hw<;>(try split at hw)<;>omega
        rw [ha] at h;have e1:=h x (by simp);have e2:=h y (by simp)
        by_cases h8:n.Op≥8
        ·rw [if_pos h8] at e1 e2;exact VT.cmp (by omega) (by omega) (by omega) (by omega) ha e1 e2
        ·rw [if_neg h8] at e1 e2;exact VT.bin (by omega) (by omega) (by omega) (by omega) ha e1 e2
       | _::_::_::_,hl =>
        exfalso;simp only [List.length_cons] at hl
        split at hw<;>(try split at hw)<;>omega
      ·intro h x hx;obtain ⟨-,h|⟨h0,y,h,hy⟩|⟨h0,-,-,y,z,h,hy,hz⟩|⟨h0,-,-,y,z,h,hy,hz⟩⟩:=h.inv
       ·rw [h.2.2.2] at hx;cases hx
       ·rw [h,List.mem_singleton] at hx;subst hx;rw [if_neg (by omega)];exact hy
       ·rw [h] at hx;simp only [List.mem_cons,List.not_mem_nil,or_false] at hx;rw [if_neg (by omega)];rcases hx with rfl|rfl
        ·exact hy
        ·exact hz
       ·rw [h] at hx;simp only [List.mem_cons,List.not_mem_nil,or_false] at hx;rw [if_pos (by omega)];rcases hx with rfl|rfl
        ·exact hy
        ·exact hz
     ·rw [At (neT (by omega)),dF];intro h;obtain ⟨-,h|⟨h0,y,h,hy⟩|⟨h0,-,-,y,z,h,hy,hz⟩|⟨h0,-,-,y,z,h,hy,hz⟩⟩:=h.inv
      ·rw [h.2.2.2] at hl;simp only [List.length_nil] at hl;split at hw<;>(try split at hw)<;>omega
      ·rw [h] at hl;simp only [List.length_cons,List.length_nil] at hl;split at hw<;>(try split at hw)<;>omega
      ·rw [h] at hl;simp only [List.length_cons,List.length_nil] at hl;split at hw<;>(try split at hw)<;>omega
      ·rw [h] at hl;simp only [List.length_cons,List.length_nil] at hl;split at hw<;>(try split at hw)<;>omega
    by_cases h2':n.Op≤2
    ·rw [At (dT h2'),eqF (show n.Op≠4 by omega),eqF (show n.Op≠5 by omega),dF (show ¬n.Op≥8 by omega),Aj (c:=bif (bif false then true else false) then true else false) rfl];exact fin 0 (by rw [if_pos h2'])
    ·rw [Aj (dF h2')]
     by_cases h3':n.Op=3∨n.Op=6∨n.Op=7
     ·rw [eqF (show n.Op≠4 by omega),eqF (show n.Op≠5 by omega),dF (show ¬n.Op≥8 by omega),Aj (c:=bif (bif false then true else false) then true else false) rfl];exact fin 1 (by rw [if_neg h2',if_pos h3'])
     ·rw [At (c:=bif (bif (n.Op==4) then true else (n.Op==5)) then true else (decide (n.Op≥8))) (by
       by_cases h4':n.Op=4
       ·rw [eqT h4'];rfl
       ·by_cases h5':n.Op=5
        ·rw [eqF h4',eqT h5'];rfl
        ·rw [eqF h4',eqF h5',dT (show n.Op≥8 by omega)];rfl)]
      exact fin 2 (by rw [if_neg h2',if_neg h3'])
   ·rw [At rfl,dF];intro h;have hg':=hg.1 rfl;obtain ⟨h0,h|⟨h3,-⟩|⟨h3,h4,h5,-⟩|⟨h3,h4,h5,-⟩⟩:=h.inv<;>omega
  ·show Lk F (Ci F) (Fz F) n=_;have hg:((bif (bif (bif (bif (bif (bif (bif (decide (n.Op<14)) then true else (decide (n.Op>27))) then true else (!(Bj n.Value_ 0 1000000000))) then true else (bif (n.Op != 14) then (n.Value_ != 0) else false)) then true else (bif (n.Op != 25) then (bif (n.Rays != 0) then true else (n.Gates != 0)) else false)) then true else (!(Bj n.Rays 0 3))) then true else (!(Bj n.Gates 0 3))) then true else false)=true)↔(n.Op<14∨n.Op>27∨¬(0≤n.Value_∧n.Value_≤1000000000)∨(n.Op≠14∧n.Value_≠0)∨(n.Op≠25∧(n.Rays≠0∨n.Gates≠0))∨¬(0≤n.Rays∧n.Rays≤3)∨¬(0≤n.Gates∧n.Gates≤3)):=by
    unfold Bj;simp [cond_eq_ite];omega
   unfold Lk;generalize (bif (bif (bif (bif (bif (bif (decide (n.Op<14)) then true else (decide (n.Op>27))) then true else (!(Bj n.Value_ 0 1000000000))) then true else (bif (n.Op != 14) then (n.Value_ != 0) else false)) then true else (bif (n.Op != 25) then (bif (n.Rays != 0) then true else (n.Gates != 0)) else false)) then true else (!(Bj n.Rays 0 3))) then true else (!(Bj n.Gates 0 3)))=b at hg ⊢
   cases b
   ·rw [Aj rfl];have hg':¬(n.Op<14∨n.Op>27∨¬(0≤n.Value_∧n.Value_≤1000000000)∨(n.Op≠14∧n.Value_≠0)∨(n.Op≠25∧(n.Rays≠0∨n.Gates≠0))∨¬(0≤n.Rays∧n.Rays≤3)∨¬(0≤n.Gates∧n.Gates≤3)):=fun h=>by have:=hg.2 h;cases this
    by_cases h25:n.Op=25
    ·rw [At (eqT h25)]
     by_cases hl:n.Args.length=1
     ·match ha:n.Args,hl with
      | [x],_ =>
       have s:=(hsub 0 x (by rw [ha];rfl)).1;rw [At (eqT (by simp)),Rm,s,sbd]
       congr 1
       rw [decide_eq_decide];constructor
       ·intro h;exact VF.un (by omega) h25 (by omega) ha h
       ·intro h;rcases h.inv with ⟨h0,-⟩|⟨-,-,-,y,h,hy⟩|⟨-,h0,-⟩
        ·omega
        ·rw [ha] at h;cases h;exact hy
        ·omega
     ·rw [Aj (eqF (by omega)),dF];intro h;rcases h.inv with ⟨h0,-⟩|⟨-,-,-,y,h,hy⟩|⟨-,h0,-⟩
      ·omega
      ·rw [h] at hl;exact hl rfl
      ·omega
    ·rw [Aj (eqF h25)]
     by_cases h26:n.Op≥26
     ·rw [At (dT h26)]
      by_cases hl:n.Args.length=2
      ·match ha:n.Args,hl with
       | [x,y],_ =>
        have sx:=(hsub 0 x (by rw [ha];rfl)).2;have sy:=(hsub 1 y (by rw [ha];rfl)).2;have hiff:VF n↔VF x∧VF y∧y.Op<26:=by
         constructor
         ·intro h;rcases h.inv with ⟨h0,-⟩|⟨-,h0,-⟩|⟨-,-,-,-,x',y',h,hx,hy,hy2⟩
          ·omega
          ·omega
          ·rw [ha] at h;cases h;exact ⟨hx,hy,hy2⟩
         ·rintro ⟨hx,hy,hy2⟩;exact VF.bin (by omega) (by omega) (by omega) (by omega) ha hx hy hy2
        rw [At (eqT (by simp)),Rm,sx,sbd]
        by_cases hx:VF x
        ·rw [dT hx,At rfl,A1u,sy,sbd]
         by_cases hy:VF y
         ·rw [dT hy,At rfl,A1u]
          congr 1
          rw [decide_eq_decide,hiff];exact ⟨fun h=>⟨hx,hy,h⟩,fun h=>h.2.2⟩
         ·rw [dF hy,Aj rfl,dF fun h=>hy (hiff.1 h).2.1]
        ·rw [dF hx,Aj rfl,dF fun h=>hx (hiff.1 h).1]
      ·rw [Aj (eqF (by omega)),dF];intro h;rcases h.inv with ⟨h0,-⟩|⟨-,h0,-⟩|⟨-,-,-,-,x',y',h,hx,hy,hy2⟩
       ·omega
       ·omega
       ·rw [h] at hl;exact hl rfl
     ·rw [Aj (dF h26)]
      congr 1
      by_cases hl:n.Args=[]
      ·rw [eqT (by rw [hl];rfl),dT (VF.leaf (by omega) (by omega) (by omega) hl)]
      ·rw [eqF (by have:=List.length_pos_iff.2 hl;omega),dF];intro h;rcases h.inv with ⟨-,-,-,h⟩|⟨-,h0,-⟩|⟨-,h0,-⟩
       ·exact hl h
       ·omega
       ·omega
   ·rw [At rfl,dF];intro h;have hg':=hg.1 rfl;rcases h.inv with ⟨h0,h3,h4,-⟩|⟨h0,h1,h3,-⟩|⟨h0,h1,h3,h4,-⟩<;>omega
end Go.Proofs.YtkjnafecmjakcaaGreatDoor
namespace Go.Proofs.YtkjnafecmjakcaaGreatDoor
open Go Go.RowKit Go.Eng
set_option maxRecDepth 10000
set_option linter.unusedVariables false
set_option linter.unusedSimpArgs false
def isX (k:Bool) (u:sift_Node):Bool:=bif k then sift_isCondition u else sift_isValue u
structure StG (self_:sift_Node→Option Bool) (p:sift_Node) (k:Bool) (L:Nat→Int→Option Bool):Prop where
 step:∀n (i:Nat) u b,p.Args[i]? = some u→p.Args.length≤2→self_ u=some b→L (n+1) (i:Int)=bif (bif (!(isX k u)) then true else (!b)) then (some false) else L n ((i:Int)+1)
 fin:∀n x,(p.Args.length:Int)≤x→L (n+1) x=bif (decide (p.Op<26)) then (some true) else ((getI p.Args 1).bind fun u=>some (decide (u.Op<26)))
theorem W3 {self_:sift_Node→Option Bool} {x b:Bool} {u:sift_Node} {A:Option Bool} (hs:self_ u=some b):((gd ((!x)==false&&true) (self_ u) default).bind fun y=>bif (bif (!x) then true else (!y)) then (some false) else A)=bif (bif (!x) then true else (!b)) then (some false) else A:=by
 cases x
 ·rw [gdF (g:=(!false)==false&&true) rfl,sbd];rfl
 ·rw [gdT (g:=(!true)==false&&true) rfl,hs,sbd]
section
variable {self_:sift_Node→Option Bool} {p:sift_Node}
theorem sg2:StG self_ p true (Gs self_ p):=by
 refine ⟨fun n i u b hi hl hs=>?_,fun n x hx=>?_⟩
 ·have hlt:=(List.getElem?_eq_some_iff.1 hi).1;show C4 self_ p _ _=_;rw [C4,At (dT (by omega)),Cz i u rfl hi,ckb (by omega),W3 hs];rfl
 ·show C4 self_ p _ _=_;rw [C4,Aj (dF (by omega))];rfl
theorem sg4:StG self_ p true (Gt self_ p):=by
 refine ⟨fun n i u b hi hl hs=>?_,fun n x hx=>?_⟩
 ·have hlt:=(List.getElem?_eq_some_iff.1 hi).1;show C5 self_ p _ _=_;rw [C5,At (dT (by omega)),Cz i u rfl hi,ckb (by omega),W3 hs];rfl
 ·show C5 self_ p _ _=_;rw [C5,Aj (dF (by omega))];rfl
theorem sg6:StG self_ p true (Gu self_ p):=by
 refine ⟨fun n i u b hi hl hs=>?_,fun n x hx=>?_⟩
 ·have hlt:=(List.getElem?_eq_some_iff.1 hi).1;show C6 self_ p _ _=_;rw [C6,At (dT (by omega)),Cz i u rfl hi,ckb (by omega),W3 hs];rfl
 ·show C6 self_ p _ _=_;rw [C6,Aj (dF (by omega))];rfl
theorem sg8:StG self_ p false (Gv self_ p):=by
 refine ⟨fun n i u b hi hl hs=>?_,fun n x hx=>?_⟩
 ·have hlt:=(List.getElem?_eq_some_iff.1 hi).1;show C7 self_ p _ _=_;rw [C7,At (dT (by omega)),Cz i u rfl hi,ckb (by omega),W3 hs];rfl
 ·show C7 self_ p _ _=_;rw [C7,Aj (dF (by omega))];rfl
theorem A7y:StG self_ p true (J0 self_ p):=by
 refine ⟨fun n i u b hi hl hs=>?_,fun n x hx=>?_⟩
 ·have hlt:=(List.getElem?_eq_some_iff.1 hi).1;show D1 self_ p _ _=_;rw [D1,At (dT (by omega)),Cz i u rfl hi,ckb (by omega),W3 hs];rfl
 ·show D1 self_ p _ _=_;rw [D1,Aj (dF (by omega))];rfl
theorem A7o:StG self_ p true (J1 self_ p):=by
 refine ⟨fun n i u b hi hl hs=>?_,fun n x hx=>?_⟩
 ·have hlt:=(List.getElem?_eq_some_iff.1 hi).1;show D2 self_ p _ _=_;rw [D2,At (dT (by omega)),Cz i u rfl hi,ckb (by omega),W3 hs];rfl
 ·show D2 self_ p _ _=_;rw [D2,Aj (dF (by omega))];rfl
theorem StG.all {k:Bool} {L:Nat→Int→Option Bool} (h:StG self_ p k L) (hl:p.Args.length≤2) (hop:p.Op<26∨p.Args.length=2) (hs:∀(i:Nat) u,p.Args[i]? = some u→∃b,self_ u=some b) {F:Nat} (hF:4≤F) :
  ∃b,L F 0=some b∧(b=true→(∀(i:Nat) u,p.Args[i]? = some u→isX k u=true∧self_ u=some true)∧(p.Op<26∨∃u,p.Args[1]? = some u∧u.Op<26)):=by
 have go:∀(n i:Nat),p.Args.length+1≤n+i→i≤p.Args.length→∃b,L n i=some b∧(b=true→(∀(j:Nat) u,i≤j→p.Args[j]? = some u→isX k u=true∧self_ u=some true)∧(p.Op<26∨∃u,p.Args[1]? = some u∧u.Op<26)):=by
  intro n
  induction n with
  | zero=>intro i h0 h1;omega
  | succ n ih =>
   intro i h0 h1
   by_cases hi:i<p.Args.length
   ·have hx:=List.getElem?_eq_getElem hi;generalize p.Args[i]=u at hx;obtain ⟨b,hb⟩:=hs i u hx;rw [h.step n i u b hx hl hb]
    cases hc:(bif (!(isX k u)) then true else (!b))
    ·rw [Aj rfl];have hk:isX k u=true∧b=true:=by revert hc;cases isX k u<;>cases b<;>simp
     obtain ⟨c,c1,c2⟩:=ih (i+1) (by omega) (by omega);refine ⟨c,c1,fun hc=>⟨fun j v hj hv=>?_,(c2 hc).2⟩⟩
     by_cases e:j=i
     ·subst e;rw [hx] at hv;cases hv;exact ⟨hk.1,by rw [hb,hk.2]⟩
     ·exact (c2 hc).1 j v (by omega) hv
    ·rw [At rfl];exact ⟨false,rfl,fun h=>by cases h⟩
   ·rw [h.fin n i (by omega)]
    by_cases h26:p.Op<26
    ·rw [At (dT h26)];exact ⟨true,rfl,fun _=>⟨fun j u hj hu=>by have:=(List.getElem?_eq_some_iff.1 hu).1;omega,.inl h26⟩⟩
    ·rw [Aj (dF h26)];have h2:1<p.Args.length:=by omega
     have hx:=List.getElem?_eq_getElem h2;rw [show (1:Int)=((1:Nat):Int) from rfl,Cz 1 _ rfl hx];exact ⟨_,rfl,fun hb=>⟨fun j u hj hu=>by have:=(List.getElem?_eq_some_iff.1 hu).1;omega,.inr ⟨_,hx,of_decide_eq_true hb⟩⟩⟩
 obtain ⟨b,h1,h2⟩:=go F 0 (by omega) (by omega);exact ⟨b,h1,fun hb=>⟨fun i u hu=>(h2 hb).1 i u (by omega) hu,(h2 hb).2⟩⟩
end
theorem orI {x y:Bool} (h:(bif x then true else y)=false):x=false∧y=false:=by cases x<;>cases y<;>simp_all
theorem A7t {a b:Int} (h:(a != b)=false):a=b:=by simpa using h
theorem grd {P:Prop} {X:Option Bool} {len a v r g vm rm:Int} (hX:len=a→0≤v→0≤r→0≤g→v≤vm→r≤rm→g≤rm→∃b,X=some b∧(b=true→P)) :
  ∃b,(bif (bif (bif (bif (len != a) then true else (decide ((if g<if r<v then r else v then g else if r<v then r else v)<0))) then true else (decide (v>vm))) then true else (decide ((if g>r then g else r)>rm))) then (some false) else X)=some b∧(b=true→P):=by
 cases h:(bif (bif (bif (len != a) then true else (decide ((if g<if r<v then r else v then g else if r<v then r else v)<0))) then true else (decide (v>vm))) then true else (decide ((if g>r then g else r)>rm)))
 ·rw [Aj rfl];obtain ⟨h,h4⟩:=orI h;obtain ⟨h,h3⟩:=orI h;obtain ⟨h1,h2⟩:=orI h;have h1:=A7t h1;have h2:=of_decide_eq_false h2;have h3:=of_decide_eq_false h3;have h4:=of_decide_eq_false h4;have h5:0≤v∧0≤r∧0≤g:=by split at h2<;>split at h2<;>omega
  have h6:r≤rm∧g≤rm:=by split at h4<;>omega
  exact hX h1 h5.1 h5.2.1 h5.2.2 (by omega) h6.1 h6.2
 ·rw [At rfl];exact ⟨false,rfl,fun h=>by cases h⟩
theorem Wh {u:sift_Node}:sift_isCondition u=true↔1≤u.Op∧u.Op≤13:=by unfold sift_isCondition;simp [cond_eq_ite]
theorem Wi {u:sift_Node}:sift_isValue u=true↔14≤u.Op∧u.Op≤27:=by unfold sift_isValue;simp [cond_eq_ite]
theorem VT.op {n:ref04_Node} (h:VT n):1≤n.Op∧n.Op≤13:=by obtain ⟨-,h|⟨h,-⟩|⟨h,-⟩|⟨h,-⟩⟩:=h.inv<;>omega
theorem VF.op {n:ref04_Node} (h:VF n):14≤n.Op∧n.Op≤27:=by rcases h.inv with ⟨h,-⟩|⟨-,h,-⟩|⟨-,h,-⟩<;>omega
theorem Wn (n:ref04_Node):(cv n).Op=n.Op:=by rw [Zb]
theorem A2d:∀(F:Nat) (n:ref04_Node),nds n≤100000→nds n+5≤F→∃b,Bf F (cv n)=some b∧(b=true→VT n∨VF n):=by
 intro F
 induction F with
 | zero=>intro n _ h;omega
 | succ F ih =>
  intro n h1 h2;have hn:=T7 n;have hal:=T6 n.Args;have hl:=Ux n.Args;have hsub:∀(i:Nat) x,n.Args[i]? = some x→∃b,Bf F (cv x)=some b∧(b=true→VT x∨VF x):=by
   intro i x hx;have:=Q4 (List.mem_of_getElem? hx);exact ih x (by omega) (by omega)
  have hs:∀(i:Nat) u,(cvL n.Args)[i]? = some u→∃b,Bf F u=some b:=by
   intro i u hu;have hi:=(List.getElem?_eq_some_iff.1 hu).1;have hx:=List.getElem?_eq_getElem (l:=n.Args) (i:=i) (by omega);have:=Uw hx;rw [hu] at this
   cases this
   obtain ⟨b,hb,-⟩:=hsub i _ hx;exact ⟨b,hb⟩
  have hT:∀(i:Nat) x,n.Args[i]? = some x→isX true (cv x)=true∧Bf F (cv x)=some true→VT x:=by
   rintro i x hx ⟨k1,k2⟩;obtain ⟨b,hb,hv⟩:=hsub i x hx;rw [k2] at hb;cases hb
   have:=Wh.1 (show sift_isCondition (cv x)=true from k1);rw [Wn] at this;exact (hv rfl).resolve_right fun h=>by have:=h.op;omega
  have hV:∀(i:Nat) x,n.Args[i]? = some x→isX false (cv x)=true∧Bf F (cv x)=some true→VF x:=by
   rintro i x hx ⟨k1,k2⟩;obtain ⟨b,hb,hv⟩:=hsub i x hx;rw [k2] at hb;cases hb
   have:=Wi.1 (show sift_isValue (cv x)=true from k1);rw [Wn] at this;exact (hv rfl).resolve_left fun h=>by have:=h.op;omega
  rw [Zb];show ∃b,Cy F (Bf F) ⟨n.Op,n.Value_,n.Rays,n.Gates,cvL n.Args⟩=some b∧_;unfold Cy;dsimp only;rw [hl];have one:∀{L:Nat→Int→Option Bool},StG (Bf F) ⟨n.Op,n.Value_,n.Rays,n.Gates,cvL n.Args⟩ true L→n.Args.length=1→n.Op<26→∃b,L F 0=some b∧(b=true→∃x,n.Args=[x]∧VT x):=by
   intro L hL hlen hop;obtain ⟨b,b1,b2⟩:=hL.all (by dsimp only;omega) (.inl hop) hs (F:=F) (by omega);refine ⟨b,b1,fun hb=>?_⟩
   match ha:n.Args,hlen with
   | [x],_=>exact ⟨x,rfl,hT 0 x (by rw [ha];rfl) ((b2 hb).1 0 (cv x) (by dsimp only;rw [ha];rfl))⟩
  have two:∀{k:Bool} {L:Nat→Int→Option Bool},StG (Bf F) ⟨n.Op,n.Value_,n.Rays,n.Gates,cvL n.Args⟩ k L→n.Args.length=2→∃b,L F 0=some b∧(b=true→∃x y,n.Args=[x,y]∧(k=true→VT x∧VT y)∧(k=false→VF x∧VF y)∧(n.Op<26∨y.Op<26)):=by
   intro k L hL hlen;obtain ⟨b,b1,b2⟩:=hL.all (by dsimp only;omega) (.inr (by dsimp only;omega)) hs (F:=F) (by omega);refine ⟨b,b1,fun hb=>?_⟩
   match ha:n.Args,hlen with
   | [x,y],_ =>
    obtain ⟨c1,c2⟩:=b2 hb;have d1:=c1 0 (cv x) (by dsimp only;rw [ha];rfl);have d2:=c1 1 (cv y) (by dsimp only;rw [ha];rfl);refine ⟨x,y,rfl,fun hk=>?_,fun hk=>?_,c2.imp id fun ⟨u,hu,hu2⟩=>?_⟩
    ·subst hk;exact ⟨hT 0 x (by rw [ha];rfl) d1,hT 1 y (by rw [ha];rfl) d2⟩
    ·subst hk;exact ⟨hV 0 x (by rw [ha];rfl) d1,hV 1 y (by rw [ha];rfl) d2⟩
    ·dsimp only at hu;rw [ha] at hu;have:cv y=u:=Option.some.inj hu;rw [←this,Wn] at hu2;exact hu2
  have zero:∀{L:Nat→Int→Option Bool},StG (Bf F) ⟨n.Op,n.Value_,n.Rays,n.Gates,cvL n.Args⟩ true L→n.Args.length=0→n.Op<26→∃b,L F 0=some b:=by
   intro L hL hlen hop;obtain ⟨b,b1,-⟩:=hL.all (by dsimp only;omega) (.inl hop) hs (F:=F) (by omega);exact ⟨b,b1⟩
  have nil:n.Args.length=0→n.Args=[]:=List.eq_nil_of_length_eq_zero
  by_cases h3:n.Op=3
  ·rw [At (eqT h3)];refine grd fun a1 a2 a3 a4 a5 a6 a7=>?_;obtain ⟨b,b1,b2⟩:=one sg2 (by omega) (by omega);exact ⟨b,b1,fun hb=>by obtain ⟨x,e,hx⟩:=b2 hb;exact .inl (VT.un (by omega) (by omega) e hx)⟩
  rw [Aj (eqF h3)]
  by_cases h45:n.Op=4∨n.Op=5
  ·rw [At (by rcases h45 with h|h<;>rw [h]<;>rfl)]
   refine grd fun a1 a2 a3 a4 a5 a6 a7=>?_;obtain ⟨b,b1,b2⟩:=two sg4 (by omega);exact ⟨b,b1,fun hb=>by obtain ⟨x,y,e,hx,-,-⟩:=b2 hb;exact .inl (VT.bin h45 (by omega) (by omega) (by omega) e (hx rfl).1 (hx rfl).2)⟩
  rw [Aj (by rw [eqF (show n.Op≠4 by omega),eqF (show n.Op≠5 by omega)];rfl)]
  by_cases h67:n.Op=6∨n.Op=7∨n.Op=25
  ·rw [At (by rcases h67 with h|h|h<;>rw [h]<;>rfl)]
   refine grd fun a1 a2 a3 a4 a5 a6 a7=>?_;obtain ⟨b,b1,b2⟩:=one sg6 (by omega) (by omega);refine ⟨b,b1,fun hb=>?_⟩;obtain ⟨x,e,hx⟩:=b2 hb
   by_cases h25:n.Op=25
   ·exact .inr (VF.un (by omega) h25 (by omega) e hx)
   ·exact .inl (VT.un (by omega) (by omega) e hx)
  rw [Aj (by rw [eqF (show n.Op≠6 by omega),eqF (show n.Op≠7 by omega),eqF (show n.Op≠25 by omega)];rfl)]
  by_cases h8:(8≤n.Op∧n.Op≤13)∨n.Op=26∨n.Op=27
  ·rw [At (by
    rcases h8 with ⟨h,h'⟩|h|h
    ·rw [dT (show n.Op≥8 by omega),dT h'];rfl
    ·rw [h];rfl
    ·rw [h];rfl)]
   refine grd fun a1 a2 a3 a4 a5 a6 a7=>?_;obtain ⟨b,b1,b2⟩:=two sg8 (by omega);refine ⟨b,b1,fun hb=>?_⟩;obtain ⟨x,y,e,-,hx,h26⟩:=b2 hb
   by_cases hc:8≤n.Op∧n.Op≤13
   ·exact .inl (VT.cmp hc (by omega) (by omega) (by omega) e (hx rfl).1 (hx rfl).2)
   ·exact .inr (VF.bin (by omega) (by omega) (by omega) (by omega) e (hx rfl).1 (hx rfl).2 (by omega))
  rw [Aj (by
   rw [eqF (show n.Op≠26 by omega),eqF (show n.Op≠27 by omega)]
   by_cases c:n.Op≥8
   ·rw [dT c,dF (show ¬n.Op≤13 by omega)];rfl
   ·rw [dF c];rfl)]
  by_cases h14:n.Op=14
  ·rw [At (eqT h14)];refine grd fun a1 a2 a3 a4 a5 a6 a7=>?_;obtain ⟨b,b1⟩:=zero A7y (by omega) (by omega);exact ⟨b,b1,fun _=>.inr (VF.leaf (by omega) (by omega) (by omega) (nil (by omega)))⟩
  rw [Aj (eqF h14)]
  cases hc:sift_isCondition ⟨n.Op,n.Value_,n.Rays,n.Gates,cvL n.Args⟩
  ·cases hv:sift_isValue ⟨n.Op,n.Value_,n.Rays,n.Gates,cvL n.Args⟩
   ·rw [At (c:=bif !false then !false else false) rfl];exact ⟨false,rfl,fun h=>by cases h⟩
   ·have hv:=Wi.1 hv;dsimp only at hv;rw [Aj (c:=bif !false then !true else false) rfl];refine grd fun a1 a2 a3 a4 a5 a6 a7=>?_;obtain ⟨b,b1⟩:=zero A7o (by omega) (by omega);exact ⟨b,b1,fun _=>.inr (VF.leaf (by omega) (by omega) (by omega) (nil (by omega)))⟩
  ·have hc:=Wh.1 hc;dsimp only at hc;rw [Aj (c:=bif !true then !(sift_isValue ⟨n.Op,n.Value_,n.Rays,n.Gates,cvL n.Args⟩) else false) rfl];refine grd fun a1 a2 a3 a4 a5 a6 a7=>?_;obtain ⟨b,b1⟩:=zero A7o (by omega) (by omega);exact ⟨b,b1,fun _=>.inl (VT.leaf (by omega) (by omega) (by omega) (by omega) (nil (by omega)))⟩
theorem A2c {F:Nat} {n:ref04_Node} (h1:nds n≤100000) (h2:2*nds n+100≤F):∃b,Bf F (cv n)=some b ∧
  (∃c,Ci F n=some c∧(c=true↔VT n)∧(sift_isCondition (cv n)=true→b=c)∧(sift_isCondition (cv n)=false→c=false)) ∧
  (∃c,Fz F n=some c∧(c=true↔VF n)∧(sift_isValue (cv n)=true→b=c)∧(sift_isValue (cv n)=false→c=false)):=by
 classical
 obtain ⟨b,b1,b2⟩:=A2d F n h1 (by omega);obtain ⟨c1,c2⟩:=A3p F n h1 (by omega);have tsz:∀t:T,t.size≤nds t.rnode:=by
  intro t
  induction t with
  | leaf op v=>simp [T.size,T.rnode,nds,S5]
  | un op r g a ih=>simp only [T.size,T.rnode,nds,S5];omega
  | bin op a b iha ihb=>simp only [T.size,T.rnode,nds,S5];omega
 have bt:VT n∨VF n→b=true:=by
  rintro (⟨t,ht,rfl⟩|⟨t,ht,rfl⟩)
  all_goals
   have:=Y9 t _ F ht (by have:=tsz t;omega);rw [Zc,this] at b1;exact (Option.some.inj b1).symm
 refine ⟨b,b1,⟨_,c1,decide_eq_true_iff,fun hc=>?_,fun hc=>?_⟩,_,c2,decide_eq_true_iff,fun hc=>?_,fun hc=>?_⟩
 ·have hop:=Wh.1 hc;rw [Wn] at hop
  by_cases h:VT n
  ·rw [dT h];exact bt (.inl h)
  ·rw [dF h]
   cases b
   ·rfl
   ·rcases b2 rfl with h'|h'
    ·exact absurd h' h
    ·have:=h'.op;omega
 ·refine dF fun h=>?_;have:=h.op;rw [Wh.2 (by rw [Wn];exact this)] at hc;cases hc
 ·have hop:=Wi.1 hc;rw [Wn] at hop
  by_cases h:VF n
  ·rw [dT h];exact bt (.inr h)
  ·rw [dF h]
   cases b
   ·rfl
   ·rcases b2 rfl with h'|h'
    ·have:=h'.op;omega
    ·exact absurd h' h
 ·refine dF fun h=>?_;have:=h.op;rw [Wi.2 (by rw [Wn];exact this)] at hc;cases hc
end Go.Proofs.YtkjnafecmjakcaaGreatDoor
namespace Go.Proofs.YtkjnafecmjakcaaGreatDoor
open Go Go.RowKit Go.Eng
set_option maxRecDepth 10000
set_option linter.unusedVariables false
set_option linter.unusedSimpArgs false
def V6 (l:List ref04_Rule):Nat:=(l.map fun p=>nds p.When).sum
theorem Y7 {l:List ref04_Rule} {i:Nat} {x:ref04_Rule} (h:l[i]? = some x):V6 (l.take (i+1))=V6 (l.take i)+nds x.When:=by
 unfold V6;rw [List.take_add_one,h,List.map_append,List.sum_append];simp
theorem Zn {l:List ref04_Rule} {x:ref04_Rule} (h:x∈l):nds x.When≤V6 l:=by
 induction l with
 | nil=>cases h
 | cons y l ih =>
  show nds x.When≤((y::l).map fun p=>nds p.When).sum;rw [List.map_cons,List.sum_cons];rcases List.mem_cons.1 h with rfl|h
  ·omega
  ·have:=ih h;unfold V6 at this;omega
theorem A5v (l:List ref04_Rule) {F:Nat} (hF:1000≤F):∃b,Tw F l=some b∧(b=true→V6 l≤400∧l.length≤40):=by
 have go:∀(n i c:Nat),(1≤n∧(c≤400→402≤n+c))→c≤801→i≤c→i≤l.length→(c≤400→c=V6 (l.take i))→∃b,Ko F l n c i=some b∧(b=true→V6 l≤400∧l.length≤40):=by
  intro n
  induction n with
  | zero =>
   intro i c h0 h1 h2 h3 h4;omega
  | succ n ih =>
   intro i c h0 h1 h2 h3 h4;show ∃b,Mh F l (Ko F l n) c i=_∧_;unfold Mh Ps
   by_cases hc:c≤400
   ·by_cases hi:i<l.length
    ·have hx:=List.getElem?_eq_getElem hi;generalize l[i]=x at hx;have hs:=Zm 400 F x.When (by omega) (by omega);have hcn:cnt 400 x.When≤401:=by unfold cnt;omega
     have hc1:1≤cnt 400 x.When:=by have:=Wj x.When;unfold cnt;omega
     rw [dT (show (i:Int)<((l.length:Nat):Int) by omega),dT (show (c:Int)≤400 by omega),At (c:=bif true then true else false) rfl,Cz i x rfl hx,show Dm F x.When 400=_ from hs,sbd,ckb (by omega),ckb (by omega)];rw [show ((c:Int)+(cnt 400 x.When:Nat))=((c+cnt 400 x.When:Nat):Int) by omega,show (i:Int)+1=((i+1:Nat):Int) by omega]
     by_cases hn:c+cnt 400 x.When≤400
     ·refine ih (i+1) (c+cnt 400 x.When) (by omega) (by omega) (by omega) (by omega) fun _=>?_;rw [Y7 hx,←h4 hc];unfold cnt at hn ⊢;omega
     ·exact ih (i+1) (c+cnt 400 x.When) (by omega) (by omega) (by omega) (by omega) (by omega)
    ·rw [dF (show ¬(i:Int)<((l.length:Nat):Int) by omega),Aj (c:=bif false then (decide ((c:Int)≤400)) else false) rfl,dT (show (c:Int)≤400 by omega),At rfl];refine ⟨_,rfl,fun hb=>?_⟩;have:=of_decide_eq_true hb;have e:=h4 hc;rw [List.take_of_length_le (by omega)] at e;omega
   ·rw [dF (show ¬(c:Int)≤400 by omega),Aj (c:=bif (decide ((i:Int)<((l.length:Nat):Int))) then false else false) (by cases decide ((i:Int)<((l.length:Nat):Int))<;>rfl),Aj rfl]
    exact ⟨_,rfl,fun h=>by cases h⟩
 exact go F 0 0 (by omega) (by omega) (by omega) (by omega) (fun _=>rfl)
theorem A2u {xs:List sift_Rule} {r:sift_Rule} (hl:xs.length≤1000):∀(n j:Nat),xs.length+1≤n+j→j≤xs.length →
  (∃k:Int,-1≤k∧Ap xs r n j=some k∧(0≤k↔∃i x,j≤i∧xs[i]? = some x∧x.Name=r.Name)):=by
 intro n
 induction n with
 | zero=>intro j h1 h2;omega
 | succ n ih =>
  intro j h1 h2;show ∃k:Int,-1≤k∧Ar xs r _ j=_∧_;unfold Ar Kv
  by_cases hj:j<xs.length
  ·have hx:=List.getElem?_eq_getElem hj;generalize xs[j]=x at hx;rw [At (dT (by omega)),Cz j x rfl hx]
   by_cases e:x.Name=r.Name
   ·rw [At (S9.2 e)];exact ⟨j,by omega,rfl,fun _=>⟨j,x,Nat.le_refl _,hx,e⟩,fun _=>by omega⟩
   ·have es:sEq x.Name r.Name=false:=by
     cases h:sEq x.Name r.Name
     ·rfl
     ·exact absurd (S9.1 h) e
    rw [Aj es,ckb (by omega)];obtain ⟨k,k1,k2,k3⟩:=ih (j+1) (by omega) (by omega);refine ⟨k,k1,k2,k3.trans ⟨fun ⟨i,y,a,b⟩=>⟨i,y,by omega,b⟩,fun ⟨i,y,a,b,c⟩=>⟨i,y,?_,b,c⟩⟩⟩
    by_cases ei:i=j
    ·subst ei;rw [hx] at b;cases b;exact absurd c e
    ·omega
  ·rw [Aj (dF (by omega))];refine ⟨-1,by omega,rfl,fun h=>by omega,fun ⟨i,x,a,b,_⟩=>?_⟩;have:=(List.getElem?_eq_some_iff.1 b).1;omega
theorem A2v {xs:List sift_Rule} {r:sift_Rule} (hl:xs.length≤1000) {F:Nat} (hF:1001≤F):∃b,Au F xs r=some b∧(b=true↔∃(i:Nat) (x:sift_Rule),xs[i]? = some x∧x.Name=r.Name):=by
 obtain ⟨k,k1,k2,k3⟩:=A2u (r:=r) hl F 0 (by omega) (by omega);unfold Au Bd;rw [show Ap xs r F 0=some k from k2,sbd];refine ⟨_,rfl,?_⟩;rw [decide_eq_true_iff];refine Iff.trans (by omega) (k3.trans ⟨fun ⟨i,x,_,b⟩=>⟨i,x,b⟩,fun ⟨i,x,b⟩=>⟨i,x,Nat.zero_le _,b⟩⟩)
def Dup (l:List ref04_Rule) (i:Nat) (r:ref04_Rule):Prop:=∃(j:Nat) (x:ref04_Rule),j<i∧l[j]? = some x∧x.Name=r.Name
theorem A49 {l:List ref04_Rule} {F i:Nat} {r:ref04_Rule} (hl:l.length≤1000) (hi:l[i]? = some r) {k3:Int→Option Int}:∀(n j:Nat),i+1≤n+j→j≤i→(∀(j':Nat) x,j'<j→l[j']? = some x→x.Name≠r.Name) →
  (Dup l i r∧Dx F l i k3 n j=some 5)∨(¬Dup l i r∧Dx F l i k3 n j=Jx F l i k3):=by
 intro n
 induction n with
 | zero=>intro j h1 h2;omega
 | succ n ih =>
  intro j h1 h2 h3;have hlt:=(List.getElem?_eq_some_iff.1 hi).1;show (_∧Gm F l i k3 _ j=_)∨(_∧Gm F l i k3 _ j=_);unfold Gm
  by_cases hj:j<i
  ·have hx:=List.getElem?_eq_getElem (l:=l) (i:=j) (by omega);generalize l[j]=x at hx;rw [At (dT (by omega)),Cz j x rfl hx,Cz i r rfl hi]
   by_cases e:x.Name=r.Name
   ·rw [At (S9.2 e)];exact .inl ⟨⟨j,x,hj,hx,e⟩,rfl⟩
   ·have es:sEq x.Name r.Name=false:=by
     cases h:sEq x.Name r.Name
     ·rfl
     ·exact absurd (S9.1 h) e
    rw [Aj es,ckb (by omega)];refine ih (j+1) (by omega) (by omega) fun j' y hj' hy=>?_
    by_cases ej:j'=j
    ·subst ej;rw [hx] at hy;cases hy;exact e
    ·exact h3 j' y (by omega) hy
  ·rw [Aj (dF (by omega))];refine .inr ⟨fun ⟨j',x,a,b,c⟩=>h3 j' x (by omega) b c,rfl⟩
structure ROk (l:List ref04_Rule) (i:Nat) (r:ref04_Rule):Prop where
 name:nameB r.Name=true
 word:∀F,30≤F→sift_word F r.Name=some false
 dup:¬Dup l i r
 deep:dpt r.When≤12
 tree:VT r.When
theorem A2n {l:List ref04_Rule} (hl:l.length≤40) (hn:V6 l≤400) {F:Nat} (hF:2000≤F):∀(n i:Nat),l.length+1≤n+i→i≤l.length →
  ∃e,J6 F (l.map cvR) n i=some e∧Dw F l n i=some e∧(e=0→∀(j:Nat) r,i≤j→l[j]? = some r→ROk l j r):=by
 intro n
 induction n with
 | zero=>intro i h1 h2;omega
 | succ n ih =>
  intro i h1 h2;show ∃e,G4 F (l.map cvR) _ i=_∧Jv F l _ i=_∧_;unfold G4 Jv;rw [List.length_map]
  by_cases hi:i<l.length
  ·have hx:=List.getElem?_eq_getElem hi;have hmem:=List.getElem_mem hi;generalize l[i]=r at hx hmem;have hx2:(l.map cvR)[i]? = some (cvR r):=by rw [List.getElem?_map,hx];rfl
   have hnd:=Zn hmem;obtain ⟨w,hw⟩:=A53 r.Name;obtain ⟨w1,w2⟩:=hw F (by omega);rw [At (dT (by omega)),At (dT (by omega)),Cz i _ rfl hx2,Cz i r rfl hx,show beam_Name F (cvR r).Name=some (nameB r.Name) from Yo F r.Name,sbd,A39 (by omega),sbd]
   cases hnb:nameB r.Name
   ·rw [gdF (g:=(!false)==false&&true) rfl,sbd,At (c:=bif !false then true else default) rfl,At (c:=!false) rfl];exact ⟨10,rfl,rfl,fun h=>by cases h⟩
   ·rw [gdT (g:=(!true)==false&&true) rfl,show sift_word F (cvR r).Name=some w from w1,sbd,Aj (c:=!true) rfl,Cz i r rfl hx,w2,sbd]
    cases hwb:w
    ·rw [Aj rfl,Aj (c:=!true) rfl,Aj rfl];subst hwb;rw [show T2 (l.map cvR) 0 (i:Int)=some ((l.map cvR).take i) by unfold T2;rw [if_pos (by rw [List.length_map];omega)];simp,sbd];obtain ⟨b,b1,b2⟩:=A2v (xs:=(l.map cvR).take i) (r:=cvR r) (by simp;omega) (F:=F) (by omega);have hdup:b=true↔Dup l i r:=by
      refine b2.trans ⟨fun ⟨j,x,a,c⟩=>?_,fun ⟨j,x,a,c,d⟩=>?_⟩
      ·have hj:j<i:=by have:=(List.getElem?_eq_some_iff.1 a).1;simp at this;omega
       rw [List.getElem?_take_of_lt hj,List.getElem?_map,Option.map_eq_some_iff] at a;obtain ⟨y,y1,y2⟩:=a;subst y2;exact ⟨j,y,hj,y1,c⟩
      ·exact ⟨j,cvR x,by rw [List.getElem?_take_of_lt a,List.getElem?_map,c];rfl,d⟩
     rw [b1,sbd];rcases A49 (F:=F) (by omega) hx (k3:=Dw F l n) F 0 (by omega) (by omega) (fun j' x h=>by omega) with ⟨d1,d2⟩|⟨d1,d2⟩
     ·rw [hdup.2 d1,At rfl,show Dx F l i (Dw F l n) F 0=some 5 from d2];exact ⟨5,rfl,rfl,fun h=>by cases h⟩
     ·have hb:b=false:=by
       cases hb:b
       ·rfl
       ·exact absurd (hdup.1 hb) d1
      rw [hb,Aj rfl,show Dx F l i (Dw F l n) F 0=_ from d2];unfold Jx Mr;obtain ⟨p1,p2⟩:=A2r F r.When (by omega) (by omega);rw [show Dk F (cvR r).When=_ from p2,sbd,Cz i r rfl hx,p1,sbd]
      by_cases hd:dpt r.When≤12
      ·obtain ⟨s,s1,⟨c,c1,c2,c3,c4⟩,-⟩:=A2c (F:=F) (n:=r.When) (by omega) (by omega);have hdd:=A0b r.When;rw [Aj (dF (by omega)),Aj (dF (by omega)),Cz i r rfl hx,c1,sbd]
       cases hcd:sift_isCondition (cv r.When)
       ·rw [show sift_isCondition (cvR r).When=false from hcd,gdF (g:=(!false)==false&&true) rfl,sbd,At (c:=bif !false then true else !default) rfl,c4 hcd,At (c:=!false) rfl];exact ⟨2,rfl,rfl,fun h=>by cases h⟩
       ·rw [show sift_isCondition (cvR r).When=true from hcd,gdT (g:=(!true)==false&&true) rfl,show Bf F (cvR r).When=some s from s1,sbd,c3 hcd]
        cases hc:c
        ·rw [At (c:=bif !true then true else !false) rfl,At (c:=!false) rfl];exact ⟨2,rfl,rfl,fun h=>by cases h⟩
        ·rw [Aj (c:=bif !true then true else !true) rfl,Aj (c:=!true) rfl,ckb (by omega),ckb (by omega)];obtain ⟨e,e1,e2,e3⟩:=ih (i+1) (by omega) (by omega);refine ⟨e,e1,e2,fun h0 j x hj hjx=>?_⟩
         by_cases ej:j=i
         ·subst ej;rw [hx] at hjx
          cases hjx
          exact ⟨hnb,fun G hG=>(hw G hG).1,d1,hd,c2.1 hc⟩
         ·exact e3 h0 j x (by omega) hjx
      ·rw [At (dT (by omega)),At (dT (by omega))];exact ⟨24,rfl,rfl,fun h=>by cases h⟩
    ·rw [At rfl,Aj (c:=!true) rfl,At rfl];exact ⟨10,rfl,rfl,fun h=>by cases h⟩
  ·rw [Aj (dF (by omega)),Aj (dF (by omega))];refine ⟨0,rfl,rfl,fun _ j r hj hr=>?_⟩;have:=(List.getElem?_eq_some_iff.1 hr).1;omega
def rrN (p:ByteArray×T):ref04_Rule:=⟨p.1,p.2.rnode⟩
def rrl (L:List (ByteArray×T)):List ref04_Rule:=L.map rrN
theorem A1g:∀t:T,nds t.rnode=t.size∧dpt t.rnode=t.depth:=by
 intro t
 induction t with
 | leaf op v=>simp [T.size,T.depth,T.rnode,nds,S5,dpt,Wb]
 | un op r g a ih=>simp only [T.size,T.depth,T.rnode,nds,S5,dpt,Wb];omega
 | bin op a b iha ihb=>simp only [T.size,T.depth,T.rnode,nds,S5,dpt,Wb];omega
theorem A5p (L:List (ByteArray×T)):(rrl L).map cvR=rl L:=by
 unfold rrl rl;rw [List.map_map];apply List.map_congr_left;intro p _;show sift_Rule.mk p.1 (cv p.2.rnode)=_;rw [Zc];rfl
theorem Ut:∀(l:List ref04_Rule),(∀r∈l,VT r.When)→∃L:List (ByteArray×T),l=rrl L∧∀p∈L,okT true p.2
 | [],_=>⟨[],rfl,by simp⟩
 | r::l,h=>by
  obtain ⟨t,ht,e⟩:=h r (by simp);obtain ⟨L,h1,h2⟩:=Ut l fun x hx=>h x (by simp [hx]);refine ⟨(r.Name,t)::L,?_,fun p hp=>?_⟩
  rotate_left
  ·rcases List.mem_cons.1 hp with rfl|hp
   ·exact ht
   ·exact h2 p hp
  rw [h1];show r::rrl L=rrN (r.Name,t)::rrl L;unfold rrN;rw [←e]
theorem A2m {l:List ref04_Rule} (hl:l.length≤40) (hn:V6 l≤400) {F:Nat} (hF:2000≤F) :
  ∃e,Ec F (l.map cvR)=some e∧Dv F l=some e∧(e=0→∃L,GoodR L∧l=rrl L):=by
 have go:∀(n i c:Nat),l.length+1≤n+i→i≤l.length→c≤300→c=V6 (l.take i) →
   ∃e,J7 F (l.map cvR) n i c=some e∧Jy F l n c i=some e∧(e=0→V6 l≤300∧∀(j:Nat) r,l[j]? = some r→ROk l j r):=by
  intro n
  induction n with
  | zero=>intro i c h1 h2;omega
  | succ n ih =>
   intro i c h1 h2 h3 h4;show ∃e,G5 F (l.map cvR) _ i c=_∧Jw F l _ c i=_∧_;unfold G5 Jw;rw [List.length_map]
   by_cases hi:i<l.length
   ·have hx:=List.getElem?_eq_getElem hi;generalize l[i]=r at hx;have hx2:(l.map cvR)[i]? = some (cvR r):=by rw [List.getElem?_map,hx];rfl
    have s1:=A2o 300 F r.When (by omega) (by omega);have s2:=Zm 300 F r.When (by omega) (by omega);have hcn:cnt 300 r.When≤301:=by unfold cnt;omega
    rw [At (dT (by omega)),At (dT (by omega)),Cz i _ rfl hx2,Cz i r rfl hx,show Cc F (cvR r).When 300=_ from s1,sbd,show Dm F r.When 300=_ from s2,sbd,ckb (by omega)]
    by_cases hc:c+cnt 300 r.When≤300
    ·rw [Aj (dF (by omega)),ckb (by omega),ckb (by omega),Aj (dF (by omega)),ckb (by omega)];rw [show ((c:Int)+(cnt 300 r.When:Nat))=((c+cnt 300 r.When:Nat):Int) by omega,show (i:Int)+1=((i+1:Nat):Int) by omega];refine ih (i+1) (c+cnt 300 r.When) (by omega) (by omega) (by omega) ?_;rw [Y7 hx,←h4];unfold cnt at hc ⊢;omega
    ·rw [At (dT (by omega)),ckb (by omega),At (dT (by omega))];exact ⟨9,rfl,rfl,fun h=>by cases h⟩
   ·rw [Aj (dF (by omega)),Aj (dF (by omega))];obtain ⟨e,e1,e2,e3⟩:=A2n hl hn hF F 0 (by omega) (by omega);refine ⟨e,e1,e2,fun h0=>⟨?_,fun j r hr=>e3 h0 j r (by omega) hr⟩⟩;rw [List.take_of_length_le (by omega)] at h4;omega
 unfold Ec Dv;rw [List.length_map]
 by_cases h32:l.length≤32
 ·rw [Aj (dF (by omega)),Aj (dF (by omega))];obtain ⟨e,e1,e2,e3⟩:=go F 0 0 (by omega) (by omega) (by omega) rfl;refine ⟨e,e1,e2,fun h0=>?_⟩;obtain ⟨g1,g2⟩:=e3 h0;obtain ⟨L,rfl,hok⟩:=Ut l fun r hr=>by
   obtain ⟨i,hi,e⟩:=List.mem_iff_getElem.1 hr;exact (g2 i r (by rw [←e];exact List.getElem?_eq_getElem hi)).tree
  have hget:∀(i:Nat) p,L[i]? = some p→ROk (rrl L) i (rrN p):=fun i p hp=>g2 i _ (by unfold rrl;rw [List.getElem?_map,hp];rfl);refine ⟨L,⟨by simpa [rrl] using h32,?_,fun p hp F hF=>?_,fun i j p q h1 h2 hij e=>?_,fun p hp=>⟨hok p hp,?_⟩⟩,rfl⟩
  ·have:V6 (rrl L)=(L.map (·.2.size)).sum:=by
    unfold V6 rrl;rw [List.map_map]
    congr 1
    apply List.map_congr_left;intro p _;exact (A1g p.2).1
   omega
  ·obtain ⟨i,hi,e⟩:=List.mem_iff_getElem.1 hp;have:=hget i p (by rw [←e];exact List.getElem?_eq_getElem hi);exact ⟨by rw [Yo,show nameB p.1=true from this.name],this.word F hF⟩
  ·refine (hget j q h2).dup ⟨i,rrN p,hij,by unfold rrl;rw [List.getElem?_map,h1];rfl,e⟩
  ·obtain ⟨i,hi,e⟩:=List.mem_iff_getElem.1 hp;have:=(hget i p (by rw [←e];exact List.getElem?_eq_getElem hi)).deep;have h2:=(A1g p.2).2;show p.2.depth≤12;have h3:dpt p.2.rnode≤12:=this;omega
 ·rw [At (dT (by omega)),At (dT (by omega))];exact ⟨9,rfl,rfl,fun h=>by cases h⟩
end Go.Proofs.YtkjnafecmjakcaaGreatDoor
namespace Go.Proofs.YtkjnafecmjakcaaGreatDoor
open Go Go.RowKit Go.Eng
set_option maxRecDepth 10000
set_option linter.unusedVariables false
set_option linter.unusedSimpArgs false
end Go.Proofs.YtkjnafecmjakcaaGreatDoor
namespace Go.Proofs.YtkjnafecmjakcaaGreatDoor
open Go Go.RowKit Go.Eng
set_option maxRecDepth 10000
set_option linter.unusedVariables false
set_option linter.unusedSimpArgs false
end Go.Proofs.YtkjnafecmjakcaaGreatDoor
namespace Go.Proofs.YtkjnafecmjakcaaGreatDoor
open Go Go.RowKit Go.Eng
set_option maxRecDepth 10000
set_option linter.unusedVariables false
set_option linter.unusedSimpArgs false
def Fr (tok:List UInt8):Prop:=tok=[40]∨tok=[41]∨tok=[58]∨tok=[59]
end Go.Proofs.YtkjnafecmjakcaaGreatDoor
namespace Go.Proofs.YtkjnafecmjakcaaGreatDoor
open Go Go.RowKit Go.Eng
set_option maxRecDepth 10000
set_option linter.unusedVariables false
set_option linter.unusedSimpArgs false
def A74 (c:UInt8):Bool:=c==32||c==40||c==41||c==59||c==58
def Jj (L:List (ByteArray×T)):List UInt8:=L.flatMap fun p=>p.1.data.toList++(58::32::(textT p.2++[59,10]))
theorem A1i (b:ByteArray):tb b.data.toList=b:=by cases b;simp [tb]
def lo (f:Nat→List UInt8):Nat→List UInt8→List UInt8
 | _,[]=>[]
 | i,c::s=>(if A74 c=true then f i else [])++c::lo f (i+1) s
end Go.Proofs.YtkjnafecmjakcaaGreatDoor
namespace Go.Proofs.YtkjnafecmjakcaaGreatDoor
open Go Go.RowKit Go.Eng
set_option maxRecDepth 10000
set_option linter.unusedVariables false
set_option linter.unusedSimpArgs false
theorem A2k (l:List UInt8):bst (l.map fun c=>(c.toNat:Int))=tb l:=by
 unfold bst tb
 congr 2
 rw [List.map_map];have:((fun x:Int=>UInt8.ofNat x.toNat)∘fun c:UInt8=>(c.toNat:Int))=id:=by
  funext c
  show UInt8.ofNat ((c.toNat:Int)).toNat=c;rw [Int.toNat_natCast];exact UInt8.ofNat_toNat
 rw [this,List.map_id]
section
variable {self_:sift_Node→sift_Node→Option Bool} {p q u v:sift_Node} {F i:Nat} {b:Bool}
end
end Go.Proofs.YtkjnafecmjakcaaGreatDoor
namespace Go.Proofs.YtkjnafecmjakcaaGreatDoor
open Go Go.RowKit Go.Eng
set_option maxRecDepth 10000
set_option linter.unusedVariables false
set_option linter.unusedSimpArgs false
end Go.Proofs.YtkjnafecmjakcaaGreatDoor
namespace Go.Proofs.YtkjnafecmjakcaaGreatDoor
open Go Go.RowKit Go.Eng
set_option maxRecDepth 10000
set_option linter.unusedVariables false
set_option linter.unusedSimpArgs false
section
variable {s:api_Sweep} {R m:Nat} {t:T} {F:Nat} {a i:Int}
end
end Go.Proofs.YtkjnafecmjakcaaGreatDoor
namespace Go.Proofs.YtkjnafecmjakcaaGreatDoor
open Go Go.RowKit Go.Eng
set_option maxRecDepth 10000
set_option linter.unusedVariables false
set_option linter.unusedSimpArgs false
end Go.Proofs.YtkjnafecmjakcaaGreatDoor
namespace Go.Proofs.YtkjnafecmjakcaaGreatDoor
open Go Go.RowKit Go.Eng
set_option maxRecDepth 10000
set_option linter.unusedVariables false
set_option linter.unusedSimpArgs false
end Go.Proofs.YtkjnafecmjakcaaGreatDoor
namespace Go.Proofs.YtkjnafecmjakcaaGreatDoor
open Go Go.RowKit Go.Eng
set_option maxRecDepth 10000
set_option linter.unusedVariables false
set_option linter.unusedSimpArgs false
def T.far:T→Int×Int
 | .leaf _ _=>(0,0)
 | .un _ r g a=>(a.far.1+r,a.far.2+g)
 | .bin _ a b=>(mx a.far.1 b.far.1,mx a.far.2 b.far.2)
def Nr (R m k o:Int) (x:Int×Int):Prop:=k%m-x.2≤o%m∧o%m≤k%m+x.2∧∃d,-x.1≤d∧d≤x.1∧(k/m+d)%R=o/m
theorem Jl:∀(t:T) (k:Bool),okT k t→0≤t.far.1∧0≤t.far.2:=by
 intro t
 induction t with
 | leaf op v=>intro k h;simp only [T.far];omega
 | un op r g a ih =>
  intro k h;obtain ⟨h1,h2,h3,-⟩:=okU h;have:=ih true h1;simp only [T.far];omega
 | bin op a b iha ihb =>
  intro k h;have hab:(∃q,okT q a)∧∃q,okT q b:=by
   cases k<;>simp only [okT] at h
   ·exact ⟨⟨_,h.2.1⟩,⟨_,h.2.2.1⟩⟩
   ·rcases h with h|h
    ·exact ⟨⟨_,h.2.1⟩,⟨_,h.2.2⟩⟩
    ·exact ⟨⟨_,h.2.2.1⟩,⟨_,h.2.2.2⟩⟩
  obtain ⟨⟨q,qa⟩,q',qb⟩:=hab;have:=iha q qa;have:=ihb q' qb;simp only [T.far,mx];split<;>split<;>omega
theorem Nr.trans {R m k o p:Int} {x y:Int×Int} (h:Nr R m k o x) (h':Nr R m o p y):Nr R m k p (y.1+x.1,y.2+x.2):=by
 obtain ⟨a1,a2,d,d1,d2,d3⟩:=h;obtain ⟨b1,b2,e,e1,e2,e3⟩:=h';refine ⟨by dsimp only;omega,by dsimp only;omega,d+e,by dsimp only;omega,by dsimp only;omega,?_⟩;rw [←d3,Int.emod_add_emod] at e3;rw [←e3];congr 1;omega
theorem Nr.mono {R m k o:Int} {x y:Int×Int} (h:Nr R m k o x) (h1:x.1≤y.1) (h2:x.2≤y.2):Nr R m k o y:=by
 obtain ⟨a1,a2,d,d1,d2,d3⟩:=h;exact ⟨by omega,by omega,d,by omega,by omega,d3⟩
end Go.Proofs.YtkjnafecmjakcaaGreatDoor
namespace Go.Proofs.YtkjnafecmjakcaaGreatDoor
open Go Go.RowKit Go.Eng
set_option maxRecDepth 10000
set_option linter.unusedVariables false
set_option linter.unusedSimpArgs false
theorem A31 (F:Nat) (p:sift_Node):Mz (F+1) p=Gz (Mz F) p F 0 0 0:=rfl
theorem A34 {self_:sift_Node→Option (Int×Int)} {p u:sift_Node} {F:Nat} {x y z a b:Int} {i:Nat} (hi:x=(i:Int)) (hu:p.Args[i]? = some u) (hl:p.Args.length≤2) (hs:self_ u=some (a,b)) :
  Gz self_ p (F+1) x y z=Gz self_ p F (x+1) (mx y a) (mx z b):=by
 subst hi;have hlt:=(List.getElem?_eq_some_iff.1 hu).1;show Kd self_ p _ _ _ _=_;rw [Kd,At (dT (by omega)),Cz i u rfl hu,hs,sbd,ckb (by omega)];rfl
theorem A0h {self_:sift_Node→Option (Int×Int)} {p:sift_Node} {F:Nat} {x y z:Int} (hx:(p.Args.length:Int)≤x) (h:(0≤y+p.Rays∧y+p.Rays≤1000000000)∧0≤z+p.Gates∧z+p.Gates≤1000000000) :
  Gz self_ p (F+1) x y z=some (y+p.Rays,z+p.Gates):=by
 show Kd self_ p _ _ _ _=_;rw [Kd,Aj (dF (by omega)),Qv,ckb (by omega),ckb (by omega)]
theorem Yi:∀(t:T) (k:Bool),okT k t→t.far.1≤3*(t.depth:Int)∧t.far.2≤3*(t.depth:Int):=by
 intro t
 induction t with
 | leaf op v=>intro k h;simp only [T.far,T.depth];omega
 | un op r g a ih =>
  intro k h;obtain ⟨h1,h2,h3,h4⟩:=okU h;have:=ih true h1;have h5:r≤3∧g≤3:=by cases k<;>simp only [okT] at h<;>omega
  simp only [T.far,T.depth];omega
 | bin op a b iha ihb =>
  intro k h;have hab:(∃q,okT q a)∧∃q,okT q b:=by
   cases k<;>simp only [okT] at h
   ·exact ⟨⟨_,h.2.1⟩,⟨_,h.2.2.1⟩⟩
   ·rcases h with h|h
    ·exact ⟨⟨_,h.2.1⟩,⟨_,h.2.2⟩⟩
    ·exact ⟨⟨_,h.2.2.1⟩,⟨_,h.2.2.2⟩⟩
  obtain ⟨⟨q,qa⟩,q',qb⟩:=hab;have:=iha q qa;have:=ihb q' qb;simp only [T.far,T.depth,mx];split<;>split<;>omega
theorem P7 {a:Int} (h:0≤a):mx 0 a=a:=by unfold mx;split<;>omega
theorem A5u:∀(t:T) (k:Bool) (F:Nat),okT k t→t.depth+4≤F→t.depth≤1000000→Mz F t.node=some t.far:=by
 intro t
 induction t with
 | leaf op v =>
  intro k F h hF h1;obtain ⟨F,rfl⟩:∃G,F=G+2:=⟨F-2,by simp only [T.depth] at hF;omega⟩;rw [A31,A0h (by simp [T.node]) (by simp only [T.node];omega)];rfl
 | un op r g a ih =>
  intro k F h hF h1;have hf:=Yi (.un op r g a) k h;have hn:=Jl (.un op r g a) k h;obtain ⟨o1,o2,o3,-⟩:=okU h;have hn1:=Jl a true o1;simp only [T.depth] at hF h1 hf;simp only [T.far] at hf hn;obtain ⟨F,rfl⟩:∃G,F=G+3:=⟨F-3,by omega⟩;rw [A31,A34 (p:=(T.un op r g a).node) (x:=0) (y:=0) (z:=0) (i:=0) (u:=a.node) rfl rfl (by simp [T.node]) (ih true (F+2) o1 (by omega) (by omega)),P7 hn1.1,P7 hn1.2,A0h (by simp [T.node]) (by simp only [T.node];omega)];rfl
 | bin op a b iha ihb =>
  intro k F h hF h1;have hf:=Yi (.bin op a b) k h;have hn:=Jl (.bin op a b) k h;have hab:(∃q,okT q a)∧∃q,okT q b:=by
   cases k<;>simp only [okT] at h
   ·exact ⟨⟨_,h.2.1⟩,⟨_,h.2.2.1⟩⟩
   ·rcases h with h|h
    ·exact ⟨⟨_,h.2.1⟩,⟨_,h.2.2⟩⟩
    ·exact ⟨⟨_,h.2.2.1⟩,⟨_,h.2.2.2⟩⟩
  obtain ⟨⟨q,qa⟩,q',qb⟩:=hab;have hn1:=Jl a q qa;simp only [T.depth] at hF h1 hf;simp only [T.far] at hf hn;obtain ⟨F,rfl⟩:∃G,F=G+4:=⟨F-4,by omega⟩;rw [A31,A34 (p:=(T.bin op a b).node) (x:=0) (y:=0) (z:=0) (i:=0) (u:=a.node) rfl rfl (by simp [T.node]) (iha q (F+3) qa (by omega) (by omega)),P7 hn1.1,P7 hn1.2,A34 (p:=(T.bin op a b).node) (x:=0+1) (i:=1) (u:=b.node) rfl rfl (by simp [T.node]) (ihb q' (F+3) qb (by omega) (by omega)),A0h (by simp [T.node]) (by simp only [T.node];omega)];simp only [T.far,T.node,Int.add_zero]
end Go.Proofs.YtkjnafecmjakcaaGreatDoor
namespace Go.Proofs.YtkjnafecmjakcaaGreatDoor
open Go Go.RowKit Go.Eng
set_option maxRecDepth 10000
set_option linter.unusedVariables false
set_option linter.unusedSimpArgs false
theorem A5l {x:Int} {c:UInt8} (h:x=(c.toNat:Int)):bst [x]=tb [c]:=by subst h;exact A2k [c]
theorem Z4 {d:Nat} (h:d<10):IntKind.u8.wrap (48+(d:Int))=((UInt8.ofNat (48+d)).toNat:Int):=by
 rw [UInt8.toNat_ofNat',show IntKind.u8.wrap (48+(d:Int))=(48+(d:Int))%256 from rfl,Int.emod_eq_of_lt (by omega) (by omega)];omega
theorem A08:∀(n F u:Nat),u<10 ^ (n+1)→n+1≤F→u≤1000000000→Cj F u=some (tb (Lib.decDigits u)):=by
 intro n
 induction n with
 | zero =>
  intro F u h hF hu;obtain ⟨F,rfl⟩:∃G,F=G+1:=⟨F-1,by omega⟩;show Eb (Cj F) u=_;unfold Eb;have h10:u<10:=by simpa using h
  rw [A5b (by omega) (by omega),show (u:Int)%10=u by omega,ckb (by omega),Aj (dF (by omega)),A5l (Z4 h10),Lib.decDigits,dif_pos h10]
 | succ n ih =>
  intro F u h hF hu;obtain ⟨F,rfl⟩:∃G,F=G+1:=⟨F-1,by omega⟩;show Eb (Cj F) u=_;unfold Eb;have hd:u%10<10:=Nat.mod_lt _ (by omega);rw [A5b (by omega) (by omega),show (u:Int)%10=((u%10:Nat):Int) by omega,ckb (by omega)]
  by_cases h10:u<10
  ·rw [Aj (dF (by omega)),A5l (Z4 hd),Lib.decDigits,dif_pos h10,show u%10=u by omega]
  ·have hq:u/10<10 ^ (n+1):=by rw [Nat.pow_succ] at h;omega
   have hl:=Ld (v:=((u/10:Nat):Int)) (by omega);rw [Lib.itoa_nonneg] at hl;rw [At (dT (by omega))];have e:(Ys (u:Int) 10).bind (fun x4=>(Cj F x4).bind fun y5=>(F6 y5 (bst ([IntKind.u8.wrap (48+((u%10:Nat):Int))]))).bind fun s6=>some s6)=(Cj F ((u:Int)/10)).bind fun y5=>(F6 y5 (bst ([IntKind.u8.wrap (48+((u%10:Nat):Int))]))).bind fun s6=>some s6:=by
    unfold Ys;rw [if_neg (by omega),Int.tdiv_eq_ediv_of_nonneg (by omega),ckb (by omega)]
   rw [e,show (u:Int)/10=((u/10:Nat):Int) by omega,ih F (u/10) hq (by omega) (by omega),sbd,A5l (Z4 hd),Ef (by simp only [List.length_cons,List.length_nil];omega)]
   conv=>rhs;rw [Lib.decDigits,dif_neg h10]
theorem Wo {β:Type} {F:Nat} (hF:20≤F) {v:Int} (h:0≤v∧v≤1000000000) {f:ByteArray→Option β}:(Cj F v).bind f=f (tb (Lib.itoa v)):=by
 obtain ⟨u,rfl⟩:∃u:Nat,v=u:=⟨v.toNat,by omega⟩;rw [A08 9 F u (by omega) (by omega) (by omega),sbd,Lib.itoa_nonneg]
theorem Yy (F:Nat) (p:ref04_Node):Hb (F+1) p=Dt F (Hb F) p:=rfl
theorem A3u:∀(t:T) (k:Bool) (F:Nat),okT k t→t.size+30≤F→t.size≤1000000→Hb F t.rnode=some (tb (textT t)):=by
 intro t;have sp:(⟨#[32]⟩:ByteArray)=tb [32]:=rfl
 induction t with
 | leaf op v =>
  intro k F h hF _;obtain ⟨F,rfl⟩:∃G,F=G+1:=⟨F-1,by omega⟩;have h0:1≤op∧op≤27∧op≠3∧op≠6∧op≠7∧op≠25∧op<26:=by cases k<;>simp only [okT] at h<;>omega
  have hw:=Rk op;have hz:=Ld (v:=0) (by omega);rw [Yy];show Dt F _ ⟨op,v,0,0,[]⟩=_;unfold Dt;dsimp only;rw [Vd ⟨h0.1,h0.2.1⟩,sbd,sp,Ef (by simp only [List.length_cons,List.length_nil];omega),Wo (by omega) (by omega),Ef (by simp only [List.length_append,List.length_cons,List.length_nil];omega),Ef (by simp only [List.length_append,List.length_cons,List.length_nil];omega),Wo (by omega) (by omega),Ef (by simp only [List.length_append,List.length_cons,List.length_nil];omega),Ef (by simp only [List.length_append,List.length_cons,List.length_nil];omega)]
  by_cases h14:op=14
  ·rw [At (eqT h14),Wo (by omega) (by cases k<;>simp only [okT] at h<;>omega)]
   simp only [textT,if_pos h14]
  ·rw [Aj (eqF h14),Aj (eqF h0.2.2.1),eqF h0.2.2.2.1,eqF h0.2.2.2.2.1,eqF h0.2.2.2.2.2.1,Aj (c:=bif (bif false then true else false) then true else false) rfl,Aj (dF (by omega)),Aj (eqF (show (([]:List ref04_Node).length:Int)≠2 by simp)),sbd];simp only [textT,if_neg h14]
 | un op r g a ih =>
  intro k F h hF hs;simp only [T.size] at hF hs;obtain ⟨F,rfl⟩:∃G,F=G+1:=⟨F-1,by omega⟩;obtain ⟨ha,hr,hg,-⟩:=okU h;have h0:(op=3∨op=6∨op=7∨op=25)∧r≤3∧g≤3:=by cases k<;>simp only [okT] at h<;>omega
  have hw:=Rk op;have h1:=Ld (v:=r) (by omega);have h2:=Ld (v:=g) (by omega);have hl:=N5 a true ha;have hi:=ih true F ha (by omega) (by omega);rw [Yy];show Dt F _ ⟨op,0,r,g,[a.rnode]⟩=_;unfold Dt;dsimp only;rw [Vd (by omega),sbd,sp,Ef (by simp only [List.length_cons,List.length_nil];omega),Wo (by omega) (by omega),Ef (by simp only [List.length_append,List.length_cons,List.length_nil];omega),Ef (by simp only [List.length_append,List.length_cons,List.length_nil];omega),Wo (by omega) (by omega),Ef (by simp only [List.length_append,List.length_cons,List.length_nil];omega),Ef (by simp only [List.length_append,List.length_cons,List.length_nil];omega),Aj (eqF (by omega))]
  by_cases h3:op=3
  ·rw [At (eqT h3),Rm,hi,sbd,show (⟨#[110,111,116,32]⟩:ByteArray)=tb (wd 3++[32]) from rfl,Ef (by have:=Rk 3;simp only [List.length_append,List.length_cons,List.length_nil];omega)];simp only [textT,if_pos h3];simp
  ·rw [Aj (eqF h3),At (c:=bif (bif (op==6) then true else (op==7)) then true else (op==25)) (by
    rcases h0.1 with h|h|h|h
    ·exact absurd h h3
    ·rw [eqT h];rfl
    ·rw [h];rfl
    ·rw [h];rfl),Rm,hi,sbd,Ef (by simp only [List.length_append,List.length_cons,List.length_nil];omega)]
   simp only [textT,if_neg h3];simp
 | bin op a b iha ihb =>
  intro k F h hF hs;simp only [T.size] at hF hs;obtain ⟨F,rfl⟩:∃G,F=G+1:=⟨F-1,by omega⟩;have hab:(∃q,okT q a)∧∃q,okT q b:=by
   cases k<;>simp only [okT] at h
   ·exact ⟨⟨_,h.2.1⟩,⟨_,h.2.2.1⟩⟩
   ·rcases h with h|h
    ·exact ⟨⟨_,h.2.1⟩,⟨_,h.2.2⟩⟩
    ·exact ⟨⟨_,h.2.2.1⟩,⟨_,h.2.2.2⟩⟩
  have h0:(op=4∨op=5∨8≤op∧op≤13)∨op=26∨op=27:=by cases k<;>simp only [okT] at h<;>omega
  obtain ⟨⟨q,ha⟩,q',hb⟩:=hab;have hw:=Rk op;have hz:=Ld (v:=0) (by omega);have la:=N5 a q ha;have lb:=N5 b q' hb;have ia:=iha q F ha (by omega) (by omega);have ib:=ihb q' F hb (by omega) (by omega);rw [Yy];show Dt F _ ⟨op,0,0,0,[a.rnode,b.rnode]⟩=_;unfold Dt;dsimp only;rw [Vd (by omega),sbd,sp,Ef (by simp only [List.length_cons,List.length_nil];omega),Wo (by omega) (by omega),Ef (by simp only [List.length_append,List.length_cons,List.length_nil];omega),Ef (by simp only [List.length_append,List.length_cons,List.length_nil];omega),Wo (by omega) (by omega),Ef (by simp only [List.length_append,List.length_cons,List.length_nil];omega),Ef (by simp only [List.length_append,List.length_cons,List.length_nil];omega),Aj (eqF (by omega)),Aj (eqF (by omega)),eqF (show op≠6 by omega),eqF (show op≠7 by omega),eqF (show op≠25 by omega),Aj (c:=bif (bif false then true else false) then true else false) rfl]
  by_cases h26:op≥26
  ·rw [At (dT h26),Rm,ia,sbd,Ef (by simp only [List.length_cons,List.length_nil];omega),sbd,Ef (by simp only [List.length_append,List.length_cons,List.length_nil];omega),Ef (by simp only [List.length_append,List.length_cons,List.length_nil];omega),A1u,ib,sbd,Ef (by simp only [List.length_append,List.length_cons,List.length_nil];omega)];simp only [textT,if_neg (show ¬op<14 by omega)];simp
  ·rw [Aj (dF h26),At (eqT (by simp)),Rm,ia,sbd,show (⟨#[40]⟩:ByteArray)=tb [40] from rfl,Ef (by simp only [List.length_cons,List.length_nil];omega),Ef (by simp only [List.length_append,List.length_cons,List.length_nil];omega),sbd,Ef (by simp only [List.length_append,List.length_cons,List.length_nil];omega),Ef (by simp only [List.length_append,List.length_cons,List.length_nil];omega),A1u,ib,sbd,Ef (by simp only [List.length_append,List.length_cons,List.length_nil];omega),show (⟨#[41]⟩:ByteArray)=tb [41] from rfl,Ef (by simp only [List.length_append,List.length_cons,List.length_nil];omega)];simp only [textT,if_pos (show op<14 by omega)];simp
theorem A0z:∀(L:List (ByteArray×T)),(∀p∈L,p.1.data.toList.length≤12∧okT true p.2)→(Jj L).length≤40*(L.map (·.2.size)).sum+20*L.length:=by
 intro L
 induction L with
 | nil=>intro _;simp [Jj]
 | cons p L ih =>
  intro h;obtain ⟨h1,h2⟩:=h p (by simp);have:=ih fun q hq=>h q (by simp [hq]);have t:=N5 p.2 true h2;rw [show Jj (p::L)=p.1.data.toList++(58::32::(textT p.2++[59,10]))++Jj L by simp [Jj]];simp only [List.length_append,List.length_cons,List.length_nil,List.map_cons,List.sum_cons];omega
theorem GoodR.name_len {L:List (ByteArray×T)} (h:GoodR L) {p:ByteArray×T} (hp:p∈L):p.1.data.toList.length≤12:=by
 have:=(h.names p hp 30 (by omega)).1;rw [Yo] at this;have:=Option.some.inj this;unfold nameB at this;simp only [Bool.and_eq_true,decide_eq_true_eq] at this;have h2:=this.2.1;have:p.1.size=p.1.data.toList.length:=rfl;omega
theorem GoodR.text_le {L:List (ByteArray×T)} (h:GoodR L) (j:Nat):(Jj (L.take j)).length≤20000:=by
 have:=A0z (L.take j) fun p hp=>⟨h.name_len (List.mem_of_mem_take hp),(h.trees p (List.mem_of_mem_take hp)).1⟩;have hs:(L.map (·.2.size)).sum=((L.take j).map (·.2.size)).sum+((L.drop j).map (·.2.size)).sum:=by
  rw [←List.sum_append,←List.map_append,List.take_append_drop]
 have:=h.size;have:=h.len;have:(L.take j).length≤L.length:=by simp;omega
 omega
section
variable {L:List (ByteArray×T)} (h:GoodR L) {F:Nat} (hF:2000≤F)
include h hF
theorem A27:Hc F (rl L)=some (tb (Jj L),0):=by
 have hll:=h.len;have hlen:=h.text_le L.length;rw [List.take_length] at hlen;have go:∀(n j:Nat) (c:Bool),L.length+1≤n+j→j≤L.length→Lp F (rl L) n c ((Jj (L.take j)).map fun c=>(c.toNat:Int)) j=some (tb (Jj L),0):=by
  intro n
  induction n with
  | zero=>intro j c h1 h2;omega
  | succ n ih =>
   intro j c h1 h2;show Ln F (rl L) _ c _ j=_;unfold Ln;rw [Pk]
   by_cases hj:j<L.length
   ·have hx:=List.getElem?_eq_getElem hj;have hmem:=List.getElem_mem hj;have htk:L.take (j+1)=L.take j++[L[j]]:=by rw [List.take_add_one,hx];rfl
    generalize L[j]=p at hx hmem htk;have n2:=(h.trees p hmem).1;have n3:=Nat.le_trans (Sm hmem) h.size;have t:=N5 p.2 true n2;have nl:=h.name_len hmem;have e1:(rlN p).Name=tb p.1.data.toList:=(A1i p.1).symm;have htl:=h.text_le j;rw [At (dT (by omega)),Cz j _ rfl (Th hx),e1,show (⟨#[58,32]⟩:ByteArray)=tb [58,32] from rfl,Ef (by simp only [List.length_cons,List.length_nil];omega),show Gw F (rlN p).When=some (tb (textT p.2)) from A4z p.2 true F n2 (by omega) (by omega),sbd,Ef (by simp only [List.length_append,List.length_cons,List.length_nil];omega),show (⟨#[59,10]⟩:ByteArray)=tb [59,10] from rfl,Ef (by simp only [List.length_append,List.length_cons,List.length_nil];omega)];have e2:(Jj (L.take j)).map (fun c=>(c.toNat:Int))++sby (tb (p.1.data.toList++[58,32]++textT p.2++[59,10]))=(Jj (L.take (j+1))).map fun c=>(c.toNat:Int):=by
     rw [htk];simp [sby,tb,Jj,List.flatMap_append]
    have hw:Ch F (c,(Jj (L.take j)).map fun c=>(c.toNat:Int)) (tb (p.1.data.toList++[58,32]++textT p.2++[59,10]))=some (((((tb (p.1.data.toList++[58,32]++textT p.2++[59,10])).size:Nat):Int)),(),(true,(Jj (L.take (j+1))).map fun c=>(c.toNat:Int))):=by
     unfold Ch Vm;rw [sbd];dsimp only;rw [show apd 1 ((Jj (L.take j)).map fun c=>(c.toNat:Int)) (sby (tb (p.1.data.toList++[58,32]++textT p.2++[59,10])))=some ((Jj (L.take (j+1))).map fun c=>(c.toNat:Int)) by
      unfold apd;rw [if_pos,e2];simp only [sby,tb,List.length_map,List.length_append,List.length_cons,List.length_nil];omega]
     rfl
    rw [hw,sbd,ckb (by omega)];exact ih (j+1) true (by omega) (by omega)
   ·rw [Aj (dF (by omega)),List.take_of_length_le (by omega)];unfold P4 Fv;rw [sbd];dsimp only;rw [List.length_map,Aj (dF (by omega))];unfold Qx;rw [sbd,A2k]
 unfold Hc;rw [Wm h (by omega),sbd,Aj (neF rfl)];exact go F 0 false (by omega) (by omega)
theorem A0t (hc:Dv F (rrl L)=some 0):K4 F (rrl L)=some (tb (Jj L),0):=by
 have hll:=h.len;have hlen:=h.text_le L.length;rw [List.take_length] at hlen;have go:∀(n j:Nat),L.length+1≤n+j→j≤L.length→K6 F (rrl L) n (tb (Jj (L.take j))) j=some (tb (Jj L),0):=by
  intro n
  induction n with
  | zero=>intro j h1 h2;omega
  | succ n ih =>
   intro j h1 h2;show K5 F (rrl L) _ _ j=_;unfold K5;rw [show (rrl L).length=L.length by simp [rrl]]
   by_cases hj:j<L.length
   ·have hx:=List.getElem?_eq_getElem hj;have hmem:=List.getElem_mem hj;have htk:L.take (j+1)=L.take j++[L[j]]:=by rw [List.take_add_one,hx];rfl
    generalize L[j]=p at hx hmem htk;have hx2:(rrl L)[j]? = some (rrN p):=by unfold rrl;rw [List.getElem?_map,hx];rfl
    have n2:=(h.trees p hmem).1;have n3:=Nat.le_trans (Sm hmem) h.size;have t:=N5 p.2 true n2;have nl:=h.name_len hmem;have e1:(rrN p).Name=tb p.1.data.toList:=(A1i p.1).symm;have htl:=h.text_le j;rw [At (dT (by omega)),Cz j _ rfl hx2,e1,show (⟨#[58,32]⟩:ByteArray)=tb [58,32] from rfl,Ef (by simp only [List.length_cons,List.length_nil];omega),Cz j _ rfl hx2,show Hb F (rrN p).When=some (tb (textT p.2)) from A3u p.2 true F n2 (by omega) (by omega),sbd,Ef (by simp only [List.length_append,List.length_cons,List.length_nil];omega),show (⟨#[59,10]⟩:ByteArray)=tb [59,10] from rfl,Ef (by simp only [List.length_append,List.length_cons,List.length_nil];omega),Ef (by simp only [List.length_append,List.length_cons,List.length_nil];omega),ckb (by omega)];have:=ih (j+1) (by omega) (by omega);rw [htk,show Jj (L.take j++[p])=Jj (L.take j)++(p.1.data.toList++[58,32]++textT p.2++[59,10]) by simp [Jj,List.flatMap_append]] at this;exact this
   ·rw [Aj (dF (by omega)),List.take_of_length_le (by omega)];unfold Mv;rw [Z3,Aj (dF (by omega))]
 unfold K4;rw [hc,sbd,Aj (neF rfl)];exact go F 0 (by omega) (by omega)
end
end Go.Proofs.YtkjnafecmjakcaaGreatDoor
namespace Go.Proofs.YtkjnafecmjakcaaGreatDoor
open Go Go.RowKit Go.Eng
set_option maxRecDepth 10000
set_option linter.unusedVariables false
set_option linter.unusedSimpArgs false
theorem X6 {L:List (ByteArray×T)} {i:Nat} {p:ByteArray×T} (h:L[i]? = some p):(rrl L)[i]? = some (rrN p):=by unfold rrl;rw [List.getElem?_map,h];rfl
theorem A0u (L:List (ByteArray×T)):(rrl L).length=L.length:=by simp [rrl]
theorem A0r (F:Nat) (p:ref04_Node):Ku (F+1) p=Fy (Ku F) p F 0 0 0:=rfl
theorem A0s {self_:ref04_Node→Option (Int×Int)} {p u:ref04_Node} {F:Nat} {x y z a b:Int} {i:Nat} (hi:x=(i:Int)) (hu:p.Args[i]? = some u) (hl:p.Args.length≤2) (hs:self_ u=some (a,b)) :
  Fy self_ p (F+1) y z x=Fy self_ p F (mx y a) (mx z b) (x+1):=by
 subst hi;have hlt:=(List.getElem?_eq_some_iff.1 hu).1;show Ha self_ p _ _ _ _=_;rw [Ha,At (dT (by omega)),Cz i u rfl hu,hs,sbd,ckb (by omega)];rfl
theorem Yx {self_:ref04_Node→Option (Int×Int)} {p:ref04_Node} {F:Nat} {x y z:Int} (hx:(p.Args.length:Int)≤x) (h:(0≤y+p.Rays∧y+p.Rays≤1000000000)∧0≤z+p.Gates∧z+p.Gates≤1000000000) :
  Fy self_ p (F+1) y z x=some (y+p.Rays,z+p.Gates):=by
 show Ha self_ p _ _ _ _=_;rw [Ha,Aj (dF (by omega)),Pt,ckb (by omega),ckb (by omega)]
theorem A4s:∀(t:T) (k:Bool) (F:Nat),okT k t→t.depth+4≤F→t.depth≤1000000→Ku F t.rnode=some t.far:=by
 intro t
 induction t with
 | leaf op v =>
  intro k F h hF h1;obtain ⟨F,rfl⟩:∃G,F=G+2:=⟨F-2,by simp only [T.depth] at hF;omega⟩;rw [A0r,Yx (by simp [T.rnode]) (by simp only [T.rnode];omega)];rfl
 | un op r g a ih =>
  intro k F h hF h1;have hf:=Yi (.un op r g a) k h;have hn:=Jl (.un op r g a) k h;obtain ⟨o1,o2,o3,-⟩:=okU h;have hn1:=Jl a true o1;simp only [T.depth] at hF h1 hf;simp only [T.far] at hf hn;obtain ⟨F,rfl⟩:∃G,F=G+3:=⟨F-3,by omega⟩;rw [A0r,A0s (p:=(T.un op r g a).rnode) (x:=0) (y:=0) (z:=0) (i:=0) (u:=a.rnode) rfl rfl (by simp [T.rnode]) (ih true (F+2) o1 (by omega) (by omega)),P7 hn1.1,P7 hn1.2,Yx (by simp [T.rnode]) (by simp only [T.rnode];omega)];rfl
 | bin op a b iha ihb =>
  intro k F h hF h1;have hf:=Yi (.bin op a b) k h;have hn:=Jl (.bin op a b) k h;have hab:(∃q,okT q a)∧∃q,okT q b:=by
   cases k<;>simp only [okT] at h
   ·exact ⟨⟨_,h.2.1⟩,⟨_,h.2.2.1⟩⟩
   ·rcases h with h|h
    ·exact ⟨⟨_,h.2.1⟩,⟨_,h.2.2⟩⟩
    ·exact ⟨⟨_,h.2.2.1⟩,⟨_,h.2.2.2⟩⟩
  obtain ⟨⟨q,qa⟩,q',qb⟩:=hab;have hn1:=Jl a q qa;simp only [T.depth] at hF h1 hf;simp only [T.far] at hf hn;obtain ⟨F,rfl⟩:∃G,F=G+4:=⟨F-4,by omega⟩;rw [A0r,A0s (p:=(T.bin op a b).rnode) (x:=0) (y:=0) (z:=0) (i:=0) (u:=a.rnode) rfl rfl (by simp [T.rnode]) (iha q (F+3) qa (by omega) (by omega)),P7 hn1.1,P7 hn1.2,A0s (p:=(T.bin op a b).rnode) (x:=0+1) (i:=1) (u:=b.rnode) rfl rfl (by simp [T.rnode]) (ihb q' (F+3) qb (by omega) (by omega)),Yx (by simp [T.rnode]) (by simp only [T.rnode];omega)];simp only [T.far,T.rnode,Int.add_zero]
theorem A3q {L:List (ByteArray×T)} (h:GoodR L) {F:Nat} (hF:2000≤F) (hc:Dv F (rrl L)=some 0):∃A B,Kb F (rl L)=some (A,B,0)∧K7 F (rrl L)=some (A,B,0):=by
 have hlen:=h.len;have go:∀(n j:Nat) (y z:Int),L.length+1≤n+j→j≤L.length→∃A B,Lr F (rl L) n j y z=some (A,B,0)∧K9 F (rrl L) n y z j=some (A,B,0):=by
  intro n
  induction n with
  | zero=>intro j y z h1 h2;omega
  | succ n ih =>
   intro j y z h1 h2;show ∃A B,Lq F (rl L) _ j y z=_∧K8 F (rrl L) _ y z j=_;unfold Lq K8;rw [Pk,A0u]
   by_cases hj:j<L.length
   ·have hp:=List.getElem?_eq_getElem hj;have hm:=List.getElem_mem hj;generalize L[j]=p at hp hm;obtain ⟨t1,t2⟩:=h.trees p hm;rw [At (dT (by omega)),At (dT (by omega)),Cz j _ rfl (Th hp),Cz j _ rfl (X6 hp),show Mz F (rlN p).When=some p.2.far from A5u p.2 true F t1 (by omega) (by omega),sbd,show Ku F (rrN p).When=some p.2.far from A4s p.2 true F t1 (by omega) (by omega),sbd,ckb (by omega),ckb (by omega)];exact ih (j+1) _ _ (by omega) (by omega)
   ·rw [Aj (dF (by omega)),Aj (dF (by omega))];exact ⟨y,z,rfl,rfl⟩
 unfold Kb K7;rw [Wm h (by omega),sbd,Aj (neF rfl),hc,sbd,Aj (neF rfl)];exact go F 0 0 0 (by omega) (by omega)
section
variable {self_:ref04_Node→Bool→Option ref04_Node} {p u v:ref04_Node} {b:Bool} {x:Int} {F:Nat}
theorem A7c (h:p.Args=[]):Fj self_ p b x (F+1) [] 0=some ⟨x,p.Value_,p.Rays,p.Gates,[]⟩:=by
 show Bo self_ p b x _ [] 0=_;unfold Bo Gq;rw [h,Aj (dF (by simp))]
theorem A6q {y:ref04_Node}:apd 56 ([]:List ref04_Node) [y]=some [y]:=by unfold apd;rw [if_pos (by simp)];rfl
theorem A7s {y z:ref04_Node}:apd 56 [y] [z]=some [y,z]:=by unfold apd;rw [if_pos (by simp)];rfl
theorem A6c {a:ref04_Node} (h:p.Args=[u]) (hu:self_ u b=some a):Fj self_ p b x (F+2) [] 0=some ⟨x,p.Value_,p.Rays,p.Gates,[a]⟩:=by
 show Bo self_ p b x _ [] 0=_;unfold Bo;rw [h,At (dT (by simp)),Rm,hu,sbd,A6q,sbd,ckb (by omega)];show Bo self_ p b x _ [a] (0+1)=_;unfold Bo Gq;rw [h,Aj (dF (by simp))]
theorem A7d {a c:ref04_Node} (h:p.Args=[u,v]) (hu:self_ u b=some a) (hv:self_ v b=some c):Fj self_ p b x (F+3) [] 0=some ⟨x,p.Value_,p.Rays,p.Gates,[a,c]⟩:=by
 show Bo self_ p b x _ [] 0=_;unfold Bo;rw [h,At (dT (by simp)),Rm,hu,sbd,A6q,sbd,ckb (by omega)];show Bo self_ p b x _ [a] (0+1)=_;unfold Bo;rw [h,At (dT (by simp)),show (0:Int)+1=1 from rfl,A1u,hv,sbd,A7s,sbd,ckb (by omega)];show Bo self_ p b x _ [a,c] (1+1)=_;unfold Bo Gq;rw [h,Aj (dF (by simp))]
end
theorem A0y {β:Type} {op y:Int} {f:Int→Option β} (h:(op=1∧y=2)∨(op=2∧y=1)∨(op=4∧y=5)∨(op=5∧y=4)∨(op=6∧y=7)∨(op=7∧y=6)):(getI ([0,2,1,0,5,4,7,6]:List Int) op).bind f=f y:=by
 rcases h with ⟨rfl,rfl⟩|⟨rfl,rfl⟩|⟨rfl,rfl⟩|⟨rfl,rfl⟩|⟨rfl,rfl⟩|⟨rfl,rfl⟩<;>rfl
theorem A29:∀(t:T) (k b:Bool) (F:Nat),okT k t→(b=true→k=true)→2*t.size+10≤F→D4 F t.rnode b=some (t.pn b).rnode:=by
 intro t
 induction t with
 | leaf op v =>
  intro k b F h hb hF;obtain ⟨F,rfl⟩:∃G,F=G+2:=⟨F-2,by omega⟩;show Cw (F+1) (D4 (F+1)) ⟨op,v,0,0,[]⟩ b=_;unfold Cw E2 E3;dsimp only;have h3:op≠3:=by cases k<;>simp only [okT] at h<;>omega
  rw [Aj (eqF h3)]
  cases b
  ·rw [Aj (c:=bif false then (decide (op≥8)) else false) rfl,Aj rfl,pnL];exact A7c (p:=⟨op,v,0,0,[]⟩) rfl
  ·have:=hb rfl;subst this;simp only [okT] at h;rw [Aj (c:=bif true then (decide (op≥8)) else false) (by rw [At rfl];exact dF (by omega)),At rfl,A0y (y:=3-op) (by omega),A7e];exact A7c (p:=⟨op,v,0,0,[]⟩) rfl
 | un op r g a ih =>
  intro k b F h hb hF;simp only [T.size] at hF;obtain ⟨F,rfl⟩:∃G,F=G+3:=⟨F-3,by omega⟩;obtain ⟨o1,-,-,h30⟩:=okU h;have i1:=ih true true (F+2) o1 (fun _=>rfl) (by omega);have i2:=ih true false (F+2) o1 (fun h=>by cases h) (by omega)
  have ha:a.rnode.Op=a.op:=by cases a<;>rfl
  show Cw (F+2) (D4 (F+2)) ⟨op,0,r,g,[a.rnode]⟩ b=_;unfold Cw E2 E3;dsimp only
  by_cases h3:op=3
  ·obtain ⟨rfl,rfl⟩:=h30 h3;subst h3;rw [At (eqT rfl),Rm,ha]
   by_cases h8:a.op<8
   ·rw [At (dT h8)]
    cases b
    ·rw [show (!false)=true from rfl,i1,sbd,pn3 h8]
    ·rw [show (!true)=false from rfl,i2,sbd,A4o]
   ·rw [Aj (dF h8)]
    cases b
    ·rw [Aj rfl,Aj (c:=bif false then (decide ((3:Int)≥8)) else false) rfl,Aj rfl,A6d (by omega)];exact A6c (p:=⟨3,0,0,0,[a.rnode]⟩) rfl i2
    ·rw [At rfl,i2,sbd,A4o]
  ·rw [Aj (eqF h3)]
   cases b
   ·rw [Aj (c:=bif false then (decide (op≥8)) else false) rfl,Aj rfl,pnU h3];exact A6c (p:=⟨op,0,r,g,[a.rnode]⟩) rfl i2
   ·have:=hb rfl;subst this;simp only [okT] at h;rw [Aj (c:=bif true then (decide (op≥8)) else false) (by rw [At rfl];exact dF (by omega)),At rfl,A0y (y:=13-op) (by omega),A6f h3];exact A6c (p:=⟨op,0,r,g,[a.rnode]⟩) rfl i1
 | bin op a b iha ihb =>
  intro k n F h hb hF;simp only [T.size] at hF;obtain ⟨F,rfl⟩:∃G,F=G+4:=⟨F-4,by omega⟩;have hab:(∃q,okT q a∧(op<8→q=true))∧∃q,okT q b∧(op<8→q=true):=by
   cases k<;>simp only [okT] at h
   ·exact ⟨⟨_,h.2.1,by omega⟩,⟨_,h.2.2.1,by omega⟩⟩
   ·rcases h with h|h
    ·exact ⟨⟨_,h.2.1,fun _=>rfl⟩,⟨_,h.2.2,fun _=>rfl⟩⟩
    ·exact ⟨⟨_,h.2.2.1,by omega⟩,⟨_,h.2.2.2,by omega⟩⟩
  have hop:(op=4∨op=5)∨8≤op:=by cases k<;>simp only [okT] at h<;>omega
  obtain ⟨⟨q,qa,qa2⟩,q',qb,qb2⟩:=hab;have base:∀G,2*a.size+2*b.size+11≤G→D4 G (T.bin op a b).rnode false=some ((T.bin op a b).pn false).rnode:=by
   intro G hG;obtain ⟨G,rfl⟩:∃H,G=H+4:=⟨G-4,by omega⟩;show Cw (G+3) (D4 (G+3)) ⟨op,0,0,0,[a.rnode,b.rnode]⟩ false=_;unfold Cw E2 E3;dsimp only;rw [Aj (eqF (by omega)),Aj (c:=bif false then (decide (op≥8)) else false) rfl,Aj rfl,pnB];exact A7d (p:=⟨op,0,0,0,[a.rnode,b.rnode]⟩) rfl (iha q false (G+3) qa (fun h=>by cases h) (by omega)) (ihb q' false (G+3) qb (fun h=>by cases h) (by omega))
  cases n
  ·exact base _ (by omega)
  ·show Cw (F+3) (D4 (F+3)) ⟨op,0,0,0,[a.rnode,b.rnode]⟩ true=_;unfold Cw E2 E3;dsimp only;rw [Aj (eqF (by omega))]
   by_cases h8:8≤op
   ·rw [At (c:=bif true then (decide (op≥8)) else false) (by rw [At rfl];exact dT (by omega)),show D4 (F+3) ⟨op,0,0,0,[a.rnode,b.rnode]⟩ false=_ from base (F+3) (by omega),sbd,A6e h8];simp only [pnB];rfl
   ·rw [Aj (c:=bif true then (decide (op≥8)) else false) (by rw [At rfl];exact dF (by omega)),At rfl,A0y (y:=9-op) (by omega),A3m (by omega)];have e1:=qa2 (by omega);subst e1;have e2:=qb2 (by omega);subst e2;exact A7d (p:=⟨op,0,0,0,[a.rnode,b.rnode]⟩) rfl (iha true true (F+3) qa (fun _=>rfl) (by omega)) (ihb true true (F+3) qb (fun _=>rfl) (by omega))
theorem A28 {L:List (ByteArray×T)} (h:GoodR L) {F:Nat} (hF:2000≤F) (hc:Dv F (rrl L)=some 0):K1 F (rrl L)=some (rrl (plL L),0):=by
 have hlen:=h.len;have go:∀(n j:Nat),L.length+1≤n+j→j≤L.length→K3 F (rrl L) n (rrl (plL (L.take j))) j=some (rrl (plL L),0):=by
  intro n
  induction n with
  | zero=>intro j h1 h2;omega
  | succ n ih =>
   intro j h1 h2;show K2 F (rrl L) _ _ j=_;unfold K2;rw [A0u]
   by_cases hj:j<L.length
   ·have hp:=List.getElem?_eq_getElem hj;have hm:=List.getElem_mem hj;have htk:L.take (j+1)=L.take j++[L[j]]:=by rw [List.take_add_one,hp];rfl
    generalize L[j]=p at hp hm htk;have hsz:=Nat.le_trans (Sm hm) h.size;rw [At (dT (by omega)),Cz j _ rfl (X6 hp),Cz j _ rfl (X6 hp),show D4 F (rrN p).When false=_ from A29 p.2 true false F (h.trees p hm).1 (fun h=>by cases h) (by omega),sbd,show apd 72 (rrl (plL (L.take j))) [⟨(rrN p).Name,(p.2.pn false).rnode⟩]=some (rrl (plL (L.take (j+1)))) by
     unfold apd;rw [if_pos (by simp [rrl,plL];omega),htk];simp [rrl,plL,rrN],sbd,ckb (by omega)]
    exact ih (j+1) (by omega) (by omega)
   ·rw [Aj (dF (by omega)),show j=L.length by omega,List.take_length];rfl
 unfold K1;rw [hc,sbd,Aj (neF rfl)];exact go F 0 (by omega) (by omega)
section
variable {self_:sift_Node→ref04_Node→Option Bool} {p u:sift_Node} {q v:ref04_Node} {F i:Nat}
theorem A3z (hu:p.Args[i]? = some u) (hv:q.Args[i]? = some v) (hl:p.Args.length≤2) (hs:self_ u v=some true):Br self_ p q (F+1) (i:Int)=Br self_ p q F ((i:Int)+1):=by
 have hlt:=(List.getElem?_eq_some_iff.1 hu).1;show D8 self_ p q _ _=_;rw [D8,At (dT (by omega)),Cz i u rfl hu,Cz i v rfl hv,hs,sbd,Aj (c:=!true) rfl,ckb (by omega)]
theorem A0x {x:Int} (hx:(p.Args.length:Int)≤x):Br self_ p q (F+1) x=some true:=by
 show D8 self_ p q _ _=_;rw [D8,Aj (dF (by omega))];rfl
end
theorem Zv:∀(t:T) (F:Nat),t.size+4≤F→C0 F t.node t.rnode=some true:=by
 intro t;have eq:∀(t:T) (F:Nat),C0 (F+1) t.node t.rnode=Br (C0 F) t.node t.rnode F 0:=by
  intro t F;show Gj F (C0 F) t.node t.rnode=_;unfold Gj;rw [Aj (Vx (Vx (Vx (Vx (neF (by cases t<;>rfl)) (neF (by cases t<;>rfl))) (neF (by cases t<;>rfl))) (neF (by cases t<;>rfl))) (neF (by cases t<;>rfl)))]
 induction t with
 | leaf op v =>
  intro F hF;obtain ⟨F,rfl⟩:∃G,F=G+1+1:=⟨F-2,by omega⟩;rw [eq,A0x (by simp [T.node])]
 | un op r g a ih =>
  intro F hF;simp only [T.size] at hF;obtain ⟨F,rfl⟩:∃G,F=G+1+1+1:=⟨F-3,by omega⟩;rw [eq,show Br (C0 (F+1+1)) (T.un op r g a).node (T.un op r g a).rnode (F+1+1) 0=_ from A3z (i:=0) (u:=a.node) (v:=a.rnode) rfl rfl (by simp [T.node]) (ih (F+1+1) (by omega))];exact A0x (by simp [T.node])
 | bin op a b iha ihb =>
  intro F hF;simp only [T.size] at hF;obtain ⟨F,rfl⟩:∃G,F=G+1+1+1+1:=⟨F-4,by omega⟩;rw [eq,show Br (C0 (F+1+1+1)) (T.bin op a b).node (T.bin op a b).rnode (F+1+1+1) 0=_ from A3z (i:=0) (u:=a.node) (v:=a.rnode) rfl rfl (by simp [T.node]) (iha (F+1+1+1) (by omega)),
   show Br (C0 (F+1+1+1)) (T.bin op a b).node (T.bin op a b).rnode (F+1+1) (((0:Nat):Int)+1)=_ from A3z (i:=1) (u:=b.node) (v:=b.rnode) rfl rfl (by simp [T.node]) (ihb (F+1+1+1) (by omega))]
  exact A0x (by simp [T.node])
theorem A1h {M:List (ByteArray×T)} (hM:M.length≤1000) (hs:∀p∈M,p.2.size≤1000) {F:Nat} (hF:2000≤F):Nh F (rl M) (rrl M)=some true:=by
 have go:∀(n j:Nat),M.length+1≤n+j→j≤M.length→Lh F (rl M) (rrl M) n j=some true:=by
  intro n
  induction n with
  | zero=>intro j h1 h2;omega
  | succ n ih =>
   intro j h1 h2;show Lg F (rl M) (rrl M) _ j=_;unfold Lg;rw [Pk]
   by_cases hj:j<M.length
   ·have hp:=List.getElem?_eq_getElem hj;have hm:=List.getElem_mem hj;generalize M[j]=p at hp hm;have hsz:=hs p hm;rw [At (dT (by omega)),Cz j _ rfl (Th hp),Cz j _ rfl (X6 hp),show sEq (rlN p).Name (rrN p).Name=true from S9.2 rfl,Aj (c:=!true) rfl,Cz j _ rfl (Th hp),Cz j _ rfl (X6 hp),show C0 F (rlN p).When (rrN p).When=some true from Zv p.2 F (by omega),sbd,Aj (c:=bif !true then true else !true) rfl,ckb (by omega)];exact ih (j+1) (by omega) (by omega)
   ·rw [Aj (dF (by omega))];rfl
 unfold Nh;rw [Aj (neF (by rw [Pk,A0u]))];exact go F 0 (by omega) (by omega)
theorem Yc (l:List ref04_Rule):Ht 4000 l=some true:=by
 generalize hF:4000=F;have hF2:4000≤F:=by omega
 have hwk:Ma F=some true:=by rw [←hF];exact A13
 obtain ⟨b,b1,b2⟩:=A5v l (F:=F) (by omega);unfold Ht;rw [b1,sbd]
 cases b
 ·rw [At (c:=!false) rfl,hwk];rfl
 ·obtain ⟨h1,h2⟩:=b2 rfl;rw [Aj (c:=!true) rfl,A3v (by omega) (fun p hp=>by have:=Zn hp;omega) (by omega),sbd];obtain ⟨e,e1,e2,e3⟩:=A2m h2 h1 (F:=F) (by omega)
  by_cases h0:e=0
  ·subst h0;obtain ⟨L,hL,rfl⟩:=e3 rfl;obtain ⟨A,B,r1,r2⟩:=A3q hL (F:=F) (by omega) e2;rw [A5p] at e1 ⊢;rw [A27 hL (by omega),sbd,A0t hL (by omega) e2,sbd,e1,sbd,e2,sbd];dsimp only;rw [show sEq (tb (Jj L)) (tb (Jj L))=true from S9.2 rfl,Aj (Vx (Vx (y:=!true) (neF rfl) rfl) (neF rfl)),r1,sbd,r2,sbd];dsimp only;rw [Aj (Vx (Vx (neF rfl) (neF rfl)) (neF rfl)),A2f hL (by omega),sbd,A28 hL (by omega) e2,sbd];dsimp only;rw [A1h (by rw [A4n];have:=hL.len;omega) (fun p hp=>by
    obtain ⟨q,hq,rfl⟩:=List.mem_map.1 hp;have:=(A4p q.2 false).1;have:=Nat.le_trans (Sm hq) hL.size;dsimp only;omega) (by omega),sbd,gdT (g:=((bif true then ((0:Int)==0) else false)==true&&true)) rfl,hwk]
   rfl
  ·have hne:(e != 0)=true:=neT h0;have p1:Hc F (l.map cvR)=some ((⟨#[]⟩:ByteArray),e):=by unfold Hc;rw [e1,sbd,At hne]
   have p2:K4 F l=some ((⟨#[]⟩:ByteArray),e):=by unfold K4;rw [e2,sbd,At hne]
   have p3:Kb F (l.map cvR)=some (0,0,e):=by unfold Kb;rw [e1,sbd,At hne]
   have p4:K7 F l=some (0,0,e):=by unfold K7;rw [e2,sbd,At hne]
   have p5:Ka F (l.map cvR)=some ([],e):=by unfold Ka;rw [e1,sbd,At hne]
   have p6:K1 F l=some ([],e):=by unfold K1;rw [e2,sbd,At hne]
   have p7:Nh F [] []=some true:=A1h (M:=[]) (by simp) (by simp) (by omega);rw [p1,sbd,p2,sbd,e1,sbd,e2,sbd];dsimp only;rw [show sEq (⟨#[]⟩:ByteArray) ⟨#[]⟩=true from rfl,Aj (Vx (Vx (y:=!true) (neF rfl) rfl) (neF rfl)),p3,sbd,p4,sbd];dsimp only;rw [Aj (Vx (Vx (neF rfl) (neF rfl)) (neF rfl)),p5,sbd,p6,sbd];dsimp only;rw [p7,sbd,eqT (a:=e) rfl,gdT (g:=((bif true then true else false)==true&&true)) rfl,hwk];rfl
end Go.Proofs.YtkjnafecmjakcaaGreatDoor
