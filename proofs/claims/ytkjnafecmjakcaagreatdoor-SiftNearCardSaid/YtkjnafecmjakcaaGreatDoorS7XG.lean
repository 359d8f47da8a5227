import Derived.Test.YtkjnafecmjakcaaGreatDoorS7XD
set_option linter.unusedVariables false
set_option linter.unusedSimpArgs false
set_option linter.unusedSectionVars false
namespace Go.Proofs.YtkjnafecmjakcaaGreatDoor
open Go Go.RowKit Go.Eng
set_option maxRecDepth 10000
set_option linter.unusedVariables false
set_option linter.unusedSimpArgs false
theorem ckb {β:Type} {x:Int} {f:Int→Option β} (h:-9000000000000000000≤x∧x≤9000000000000000000):(ck x).bind f=f x:=by
 unfold ck;rw [if_pos (by omega)];rfl
theorem gdT {α:Type} {g:Bool} {o:Option α} {d:α} (h:g=true):gd g o d=o:=by subst h;rfl
theorem gdF {α:Type} {g:Bool} {o:Option α} {d:α} (h:g=false):gd g o d=some d:=by subst h;rfl
theorem Bf {α:Type} {c:Bool} {x y:α} (h:c=true):(bif c then x else y)=x:=by rw [h];rfl
theorem Ao {α:Type} {c:Bool} {x y:α} (h:c=false):(bif c then x else y)=y:=by rw [h];rfl
theorem sbd {α β:Type} {x:α} {f:α→Option β}:(some x).bind f=f x:=rfl
theorem dT {p:Prop} [Decidable p] (h:p):decide p=true:=decide_eq_true h
theorem dF {p:Prop} [Decidable p] (h:¬p):decide p=false:=decide_eq_false h
theorem D9 {α β:Type} {l:List α} {i:Int} {f:α→Option β} (n:Nat) (x:α) (hi:i=(n:Int)) (h:l[n]? = some x):(At l i).bind f=f x:=by
 subst hi;unfold At;rw [if_pos (by omega),show ((n:Int)).toNat=n by omega,h];rfl
theorem Wh {α β:Type} {x:α} {l:List α} {f:α→Option β}:(At (x::l) 0).bind f=f x:=D9 0 x rfl rfl
theorem A3y {α β:Type} {x y:α} {l:List α} {f:α→Option β}:(At (x::y::l) 1).bind f=f y:=D9 1 y rfl rfl
inductive T where
 | leaf (op v:Int)
 | un (op r g:Int) (a:T)
 | bin (op:Int) (a b:T)
 deriving DecidableEq,Inhabited
def T.op:T→Int
 | .leaf op _=>op
 | .un op _ _ _=>op
 | .bin op _ _=>op
def T.node:T→sift_Node
 | .leaf op v=>⟨op,v,0,0,[]⟩
 | .un op r g a=>⟨op,0,r,g,[a.node]⟩
 | .bin op a b=>⟨op,0,0,0,[a.node,b.node]⟩
def T.size:T→Nat
 | .leaf _ _=>1
 | .un _ _ _ a=>1+a.size
 | .bin _ a b=>1+a.size+b.size
def T.depth:T→Nat
 | .leaf _ _=>1
 | .un _ _ _ a=>1+a.depth
 | .bin _ a b=>1+max a.depth b.depth
theorem A47 (t:T):t.node.Op=t.op:=by cases t<;>rfl
def okT:Bool→T→Prop
 | true,.leaf op v=>(op=1∨op=2)∧v=0
 | false,.leaf op v=>(op=14∧0≤v∧v≤1000000000)∨(15≤op∧op≤24∧v=0)
 | true,.un op r g a=>((op=3∧r=0∧g=0)∨((op=6∨op=7)∧0≤r∧r≤3∧0≤g∧g≤3))∧okT true a
 | false,.un op r g a=>(op=25∧0≤r∧r≤3∧0≤g∧g≤3)∧okT true a
 | true,.bin op a b=>((op=4∨op=5)∧okT true a∧okT true b)∨(8≤op∧op≤13∧okT false a∧okT false b)
 | false,.bin op a b=>(op=26∨op=27)∧okT false a∧okT false b∧b.op<26
theorem okT.kind:∀{t:T} {k:Bool},okT k t→sift_isCondition t.node=k∧sift_isValue t.node=!k:=by
 intro t k h;have key:∀op:Int,(k=true→1≤op∧op≤13)→(k=false→14≤op∧op≤27)→t.node.Op=op→sift_isCondition t.node=k∧sift_isValue t.node=!k:=by
  intro op h1 h2 h3;unfold sift_isCondition sift_isValue;rw [h3]
  cases k
  ·obtain ⟨a,b⟩:=h2 rfl;refine ⟨?_,?_⟩
   ·by_cases hc:op≥1
    ·rw [Bf (dT hc)];exact dF (by omega)
    ·rw [Ao (dF hc)]
   ·rw [Bf (dT (by omega))];exact dT (by omega)
  ·obtain ⟨a,b⟩:=h1 rfl;refine ⟨?_,?_⟩
   ·rw [Bf (dT (by omega))];exact dT (by omega)
   ·rw [Ao (dF (by omega))];rfl
 cases t with
 | leaf op v=>cases k<;>simp only [okT] at h<;>exact key op (fun e=>by cases e<;>omega) (fun e=>by cases e<;>omega) rfl
 | un op r g a=>cases k<;>simp only [okT] at h<;>exact key op (fun e=>by cases e<;>omega) (fun e=>by cases e<;>omega) rfl
 | bin op a b=>cases k<;>simp only [okT] at h<;>exact key op (fun e=>by cases e<;>omega) (fun e=>by cases e<;>omega) rfl
end Go.Proofs.YtkjnafecmjakcaaGreatDoor
namespace Go.Proofs.YtkjnafecmjakcaaGreatDoor
open Go Go.RowKit Go.Eng
set_option maxRecDepth 10000
set_option linter.unusedVariables false
set_option linter.unusedSimpArgs false
theorem T.size_pos (t:T):1≤t.size:=by cases t<;>simp only [T.size]<;>omega
theorem Ur (F:Nat) (p:sift_Node) (m:Int):Eg (F+1) p m=Cp (Eg F) p m F 0 1:=rfl
theorem A6p {self_:sift_Node→Int→Option Int} {p:sift_Node} {m x y:Int} {n:Nat}:Cp self_ p m (n+1) x y=Gm self_ p m (Cp self_ p m n) x y:=rfl
theorem Z5 {self_:sift_Node→Int→Option Int} {p u:sift_Node} {m x y z:Int} {n i:Nat} (hx:x=(i:Int)) (hi:p.Args[i]? = some u) (hl:p.Args.length≤2) (hm:y≤m) (hm2:0≤y∧m≤1000000) (hz:self_ u (m-y)=some z) (hz2:0≤z∧z≤1000000) :
  Cp self_ p m (n+1) x y=Cp self_ p m n (x+1) (y+z):=by
 have hlt:=(List.getElem?_eq_some_iff.1 hi).1;rw [A6p,Gm,Bf (dT (by omega)),D9 i u hx hi,Ao (dF (by omega)),ckb (by omega),hz,sbd,ckb (by omega),ckb (by omega)]
theorem Xd {self_:sift_Node→Int→Option Int} {p:sift_Node} {m x y:Int} {n:Nat} (hx:(p.Args.length:Int)≤x):Cp self_ p m (n+1) x y=some y:=by
 rw [A6p,Gm,Ao (dF (by omega))];rfl
theorem Z7:∀(t:T) (F:Nat) (m:Int),t.size+4≤F→(t.size:Int)≤m→m≤1000000→Eg F t.node m=some (t.size:Int):=by
 intro t
 induction t with
 | leaf op v =>
  intro F m hF h1 h2;obtain ⟨F,rfl⟩:∃G,F=G+2:=⟨F-2,by simp only [T.size] at hF;omega⟩;rw [Ur];exact Xd (Int.le_refl _)
 | un op r g a ih =>
  intro F m hF h1 h2;simp only [T.size] at hF h1;have:=a.size_pos;obtain ⟨F,rfl⟩:∃G,F=G+3:=⟨F-3,by omega⟩;rw [Ur];rw [Z5 (p:=(T.un op r g a).node) (x:=0) (y:=1) (i:=0) (u:=a.node) rfl rfl (by simp [T.node]) (by omega) (by omega) (ih (F+2) (m-1) (by omega) (by omega) (by omega)) (by omega),Xd (by simp [T.node])];simp only [T.size];congr 1
 | bin op a b iha ihb =>
  intro F m hF h1 h2;simp only [T.size] at hF h1;have:=a.size_pos;have:=b.size_pos;obtain ⟨F,rfl⟩:∃G,F=G+4:=⟨F-4,by omega⟩;rw [Ur];rw [Z5 (p:=(T.bin op a b).node) (x:=0) (y:=1) (i:=0) (u:=a.node) rfl rfl (by simp [T.node]) (by omega) (by omega) (iha (F+3) (m-1) (by omega) (by omega) (by omega)) (by omega),
   Z5 (p:=(T.bin op a b).node) (x:=0+1) (i:=1) (u:=b.node) rfl rfl (by simp [T.node]) (by omega) (by omega) (ihb (F+3) (m-(1+a.size)) (by omega) (by omega) (by omega)) (by omega),Xd (by simp [T.node])]
  simp only [T.size];congr 1
theorem Z9 (F:Nat) (p:sift_Node):Js (F+1) p=Eh (Js F) p F 0 0:=rfl
theorem dpL {self_:sift_Node→Option Int} {p:sift_Node} {x y:Int} {n:Nat}:Eh self_ p (n+1) x y=L0 self_ p (Eh self_ p n) x y:=rfl
theorem A27 {self_:sift_Node→Option Int} {p u:sift_Node} {x y z:Int} {n i:Nat} (hy:y=(i:Int)) (hi:p.Args[i]? = some u) (hl:p.Args.length≤2) (hz:self_ u=some z) :
  Eh self_ p (n+1) x y=Eh self_ p n (if z>x then z else x) (y+1):=by
 have hlt:=(List.getElem?_eq_some_iff.1 hi).1;rw [dpL,L0,Bf (dT (by omega)),D9 i u hy hi,hz,sbd,ckb (by omega)]
theorem Za {self_:sift_Node→Option Int} {p:sift_Node} {x y:Int} {n:Nat} (hy:(p.Args.length:Int)≤y) (hx:-9000000000≤x∧x≤9000000000):Eh self_ p (n+1) x y=some (x+1):=by
 rw [dpL,L0,Ao (dF (by omega)),P6,ckb (by omega)]
theorem A3r:∀(t:T) (F:Nat),t.depth+4≤F→t.depth≤1000000→Js F t.node=some (t.depth:Int):=by
 intro t
 induction t with
 | leaf op v =>
  intro F hF h1;obtain ⟨F,rfl⟩:∃G,F=G+2:=⟨F-2,by simp only [T.depth] at hF;omega⟩;rw [Z9];exact Za (Int.le_refl _) (by omega)
 | un op r g a ih =>
  intro F hF h1;simp only [T.depth] at hF h1;obtain ⟨F,rfl⟩:∃G,F=G+3:=⟨F-3,by omega⟩;rw [Z9];rw [A27 (p:=(T.un op r g a).node) (y:=0) (i:=0) (u:=a.node) rfl rfl (by simp [T.node]) (ih (F+2) (by omega) (by omega)),Za (by simp [T.node]) (by split<;>omega)];simp only [T.depth];congr 1;split<;>omega
 | bin op a b iha ihb =>
  intro F hF h1;simp only [T.depth] at hF h1;obtain ⟨F,rfl⟩:∃G,F=G+4:=⟨F-4,by omega⟩;rw [Z9];rw [A27 (p:=(T.bin op a b).node) (y:=0) (i:=0) (u:=a.node) rfl rfl (by simp [T.node]) (iha (F+3) (by omega) (by omega)),A27 (p:=(T.bin op a b).node) (y:=0+1) (i:=1) (u:=b.node) rfl rfl (by simp [T.node]) (ihb (F+3) (by omega) (by omega)),Za (by simp [T.node]) (by split<;>split<;>omega)];simp only [T.depth];congr 1;split<;>split<;>omega
structure StL (self_:sift_Node→Option Bool) (p:sift_Node) (k:Bool) (L:Nat→Int→Option Bool):Prop where
 go:∀n (i:Nat) u,p.Args[i]? = some u→p.Args.length≤2→sift_isCondition u=k→sift_isValue u=!k→self_ u=some true→L (n+1) (i:Int)=L n ((i:Int)+1)
 fin:∀n x,(p.Args.length:Int)≤x→p.Op<26→L (n+1) x=some true
 fin2:∀n x u,(p.Args.length:Int)≤x→26≤p.Op→p.Args[1]? = some u→u.Op<26→L (n+1) x=some true
theorem A7f {self_:sift_Node→Option Bool} {p:sift_Node}:StL self_ p true (Ko self_ p):=by
 refine ⟨fun n i u hi hl h1 h2 h3=>?_,fun n x hx ho=>?_,fun n x u hx ho hu hu2=>?_⟩
 ·have hlt:=(List.getElem?_eq_some_iff.1 hi).1;show Dw self_ p _ _=_;rw [Dw,Bf (dT (by omega)),D9 i u rfl hi,h1,gdT (g:=(!true)==false&&true) rfl,h3,sbd,Ao (c:=bif (!true) then true else (!true)) rfl,ckb (by omega)]
 ·show Dw self_ p _ _=_;rw [Dw,Ao (dF (by omega)),Kk,Bf (dT ho)]
 ·show Dw self_ p _ _=_;rw [Dw,Ao (dF (by omega)),Kk,Ao (dF (by omega)),D9 (i:=1) 1 u rfl hu,dT hu2]
theorem A7g {self_:sift_Node→Option Bool} {p:sift_Node}:StL self_ p true (Kp self_ p):=by
 refine ⟨fun n i u hi hl h1 h2 h3=>?_,fun n x hx ho=>?_,fun n x u hx ho hu hu2=>?_⟩
 ·have hlt:=(List.getElem?_eq_some_iff.1 hi).1;show Dx self_ p _ _=_;rw [Dx,Bf (dT (by omega)),D9 i u rfl hi,h1,gdT (g:=(!true)==false&&true) rfl,h3,sbd,Ao (c:=bif (!true) then true else (!true)) rfl,ckb (by omega)]
 ·show Dx self_ p _ _=_;rw [Dx,Ao (dF (by omega)),Kl,Bf (dT ho)]
 ·show Dx self_ p _ _=_;rw [Dx,Ao (dF (by omega)),Kl,Ao (dF (by omega)),D9 (i:=1) 1 u rfl hu,dT hu2]
theorem A7h {self_:sift_Node→Option Bool} {p:sift_Node}:StL self_ p true (Kq self_ p):=by
 refine ⟨fun n i u hi hl h1 h2 h3=>?_,fun n x hx ho=>?_,fun n x u hx ho hu hu2=>?_⟩
 ·have hlt:=(List.getElem?_eq_some_iff.1 hi).1;show Dy self_ p _ _=_;rw [Dy,Bf (dT (by omega)),D9 i u rfl hi,h1,gdT (g:=(!true)==false&&true) rfl,h3,sbd,Ao (c:=bif (!true) then true else (!true)) rfl,ckb (by omega)]
 ·show Dy self_ p _ _=_;rw [Dy,Ao (dF (by omega)),Km,Bf (dT ho)]
 ·show Dy self_ p _ _=_;rw [Dy,Ao (dF (by omega)),Km,Ao (dF (by omega)),D9 (i:=1) 1 u rfl hu,dT hu2]
theorem A7i {self_:sift_Node→Option Bool} {p:sift_Node}:StL self_ p false (Kr self_ p):=by
 refine ⟨fun n i u hi hl h1 h2 h3=>?_,fun n x hx ho=>?_,fun n x u hx ho hu hu2=>?_⟩
 ·have hlt:=(List.getElem?_eq_some_iff.1 hi).1;show Dz self_ p _ _=_;rw [Dz,Bf (dT (by omega)),D9 i u rfl hi,h2,gdT (g:=(!!false)==false&&true) rfl,h3,sbd,Ao (c:=bif (!!false) then true else (!true)) rfl,ckb (by omega)]
 ·show Dz self_ p _ _=_;rw [Dz,Ao (dF (by omega)),Kn,Bf (dT ho)]
 ·show Dz self_ p _ _=_;rw [Dz,Ao (dF (by omega)),Kn,Ao (dF (by omega)),D9 (i:=1) 1 u rfl hu,dT hu2]
theorem A1i {g r v:Int} (hg:0≤g) (hr:0≤r) (hv:0≤v):¬(if g<if r<v then r else v then g else if r<v then r else v)<0:=by split<;>split<;>omega
theorem A1h {g r m:Int} (hg:g≤m) (hr:r≤m):¬(if g>r then g else r)>m:=by split<;>omega
theorem eqT {a b:Int} (h:a=b):(a==b)=true:=by subst h;exact beq_self_eq_true _
theorem eqF {a b:Int} (h:a≠b):(a==b)=false:=beq_eq_false_iff_ne.2 h
theorem neF {a b:Int} (h:a=b):(a != b)=false:=by subst h;simp
theorem neT {a b:Int} (h:a≠b):(a != b)=true:=by simp [h]
theorem A1p:∀(t:T) (k:Bool) (F:Nat),okT k t→t.size+5≤F→D8 F t.node=some true:=by
 intro t
 induction t with
 | leaf op v =>
  intro k F h hF;obtain ⟨F,rfl⟩:∃G,F=G+2:=⟨F-2,by simp only [T.size] at hF;omega⟩;have hk:=h.kind;show El (F+1) (D8 (F+1)) ⟨op,v,0,0,[]⟩=_;have h3:op≠3∧op≠4∧op≠5∧op≠6∧op≠7∧op≠25∧op≠26∧op≠27∧¬(8≤op∧op≤13)∧op<26∧0≤v∧(op=14→v≤1000000000)∧(op≠14→v=0):=by
   cases k<;>simp only [okT] at h<;>refine ⟨?_,?_,?_,?_,?_,?_,?_,?_,?_,?_,?_,?_,?_⟩<;>omega
  obtain ⟨a1,a2,a3,a4,a5,a6,a7,a8,a9,a10,a11,a12,a13⟩:=h3;have e8:(bif decide (op≥8) then decide (op≤13) else false)=false:=by
   by_cases hc:op≥8
   ·rw [Bf (dT hc)];exact dF (by omega)
   ·rw [Ao (dF hc)]
  have hL:(([]:List sift_Node).length:Int)=0:=rfl;unfold El;dsimp only;rw [Ao (eqF a1),eqF a2,eqF a3,Ao (c:=false) rfl,Ao (c:=false) rfl,eqF a4,eqF a5,eqF a6,Ao (c:=false) rfl,Ao (c:=false) rfl,Ao (c:=false) rfl,e8,eqF a7,eqF a8,Ao (c:=false) rfl,Ao (c:=false) rfl,Ao (c:=false) rfl]
  by_cases h14:op=14
  ·rw [Bf (eqT h14),hL,neF rfl,Ao (c:=false) rfl,dF (A1i (Int.le_refl 0) (Int.le_refl 0) a11),Ao (c:=false) rfl,dF (show ¬v>1000000000 by have:=a12 h14;omega),Ao (c:=false) rfl,dF (A1h (Int.le_refl 0) (Int.le_refl 0)),Ao (c:=false) rfl];show Jn _ _ _ _=_;rw [Jn,Ao (dF (by simp)),Mn,Bf (dT a10)]
  ·have hv:=a13 h14;subst hv;rw [Ao (eqF h14)];have e9:(bif (!(sift_isCondition ⟨op,0,0,0,[]⟩)) then (!(sift_isValue ⟨op,0,0,0,[]⟩)) else false)=false:=by
    have h1:sift_isCondition ⟨op,0,0,0,[]⟩=k:=hk.1;have h2:sift_isValue ⟨op,0,0,0,[]⟩=!k:=hk.2;rw [h1,h2];cases k<;>rfl
   rw [Ao e9,hL,neF rfl,Ao (c:=false) rfl,dF (A1i (Int.le_refl 0) (Int.le_refl 0) (Int.le_refl 0)),Ao (c:=false) rfl,dF (show ¬(0:Int)>0 by omega),Ao (c:=false) rfl,dF (A1h (Int.le_refl 0) (Int.le_refl 0)),Ao (c:=false) rfl];show Jo _ _ _ _=_;rw [Jo,Ao (dF (by simp)),Lp,Bf (dT a10)]
 | un op r g a ih =>
  intro k F h hF;simp only [T.size] at hF;have:=a.size_pos;obtain ⟨F,rfl⟩:∃G,F=G+3:=⟨F-3,by omega⟩;show El (F+2) (D8 (F+2)) ⟨op,0,r,g,[a.node]⟩=_;have ha:okT true a:=by cases k<;>simp only [okT] at h<;>exact h.2
  have hs:=ih true (F+2) ha (by omega);have hk:=ha.kind;have hL:(([a.node]:List sift_Node).length:Int)=1:=rfl;have fin:∀(L:Nat→Int→Option Bool),StL (D8 (F+2)) ⟨op,0,r,g,[a.node]⟩ true L→op<26→L (F+2) 0=some true:=fun L hLL ho=>by
   have h1:=hLL.go (F+1) 0 a.node rfl (by simp) hk.1 hk.2 hs;have h2:=hLL.fin F ((0:Nat)+1:Int) (by simp) ho;exact h1.trans h2
  unfold El;dsimp only
  by_cases h3:op=3
  ·have hrg:r=0∧g=0:=by cases k<;>simp only [okT] at h<;>omega
   obtain ⟨rfl,rfl⟩:=hrg;rw [Bf (eqT h3),hL,neF rfl,Ao (c:=false) rfl,dF (A1i (Int.le_refl 0) (Int.le_refl 0) (Int.le_refl 0)),Ao (c:=false) rfl,dF (show ¬(0:Int)>0 by omega),Ao (c:=false) rfl,dF (A1h (Int.le_refl 0) (Int.le_refl 0)),Ao (c:=false) rfl];exact fin _ A7f (by omega)
  ·have hop:(op=6∨op=7∨op=25)∧0≤r∧r≤3∧0≤g∧g≤3:=by cases k<;>simp only [okT] at h<;>omega
   obtain ⟨hop,r1,r2,g1,g2⟩:=hop;have e6:(bif (bif (op==6) then true else (op==7)) then true else (op==25))=true:=by
    rcases hop with rfl|rfl|rfl<;>rfl
   rw [Ao (eqF h3),eqF (show op≠4 by omega),eqF (show op≠5 by omega),Ao (c:=false) rfl,Ao (c:=false) rfl,Bf e6,hL,neF rfl,Ao (c:=false) rfl,dF (A1i g1 r1 (Int.le_refl 0)),Ao (c:=false) rfl,dF (show ¬(0:Int)>0 by omega),Ao (c:=false) rfl,dF (A1h g2 r2),Ao (c:=false) rfl];exact fin _ A7h (by omega)
 | bin op a b iha ihb =>
  intro k F h hF;simp only [T.size] at hF;have:=a.size_pos;have:=b.size_pos;obtain ⟨F,rfl⟩:∃G,F=G+4:=⟨F-4,by omega⟩;show El (F+3) (D8 (F+3)) ⟨op,0,0,0,[a.node,b.node]⟩=_;have hL:(([a.node,b.node]:List sift_Node).length:Int)=2:=rfl;have fin:∀(q:Bool) (L:Nat→Int→Option Bool),StL (D8 (F+3)) ⟨op,0,0,0,[a.node,b.node]⟩ q L→okT q a→okT q b→(26≤op→b.op<26)→L (F+3) 0=some true:=fun q L hLL ha hb ho=>by
   have h1:=hLL.go (F+2) 0 a.node rfl (by simp) ha.kind.1 ha.kind.2 (iha q (F+3) ha (by omega));have h2:=hLL.go (F+1) 1 b.node rfl (by simp) hb.kind.1 hb.kind.2 (ihb q (F+3) hb (by omega));have h3:L (F+1) ((1:Nat)+1:Int)=some true:=by
    by_cases hc:op<26
    ·exact hLL.fin F _ (by simp) hc
    ·exact hLL.fin2 F _ b.node (by simp) (by show 26≤op;omega) rfl (by rw [A47];exact ho (by omega))
   exact h1.trans (h2.trans h3)
  unfold El;dsimp only;have h3:op≠3:=by cases k<;>simp only [okT] at h<;>omega
  rw [Ao (eqF h3)]
  by_cases h4:op=4∨op=5
  ·have hab:okT true a∧okT true b:=by
    cases k<;>simp only [okT] at h
    ·omega
    ·rcases h with h|h
     ·exact h.2
     ·omega
   have e4:(bif (op==4) then true else (op==5))=true:=by rcases h4 with rfl|rfl<;>rfl
   rw [Bf e4,hL,neF rfl,Ao (c:=false) rfl,dF (A1i (Int.le_refl 0) (Int.le_refl 0) (Int.le_refl 0)),Ao (c:=false) rfl,dF (show ¬(0:Int)>0 by omega),Ao (c:=false) rfl,dF (A1h (Int.le_refl 0) (Int.le_refl 0)),Ao (c:=false) rfl];exact fin true _ A7g hab.1 hab.2 (by omega)
  ·have hab:okT false a∧okT false b∧(26≤op→b.op<26)∧(8≤op∧op≤13∨op=26∨op=27):=by
    cases k<;>simp only [okT] at h
    ·exact ⟨h.2.1,h.2.2.1,fun _=>h.2.2.2,by omega⟩
    ·rcases h with h|h
     ·omega
     ·exact ⟨h.2.2.1,h.2.2.2,by omega,by omega⟩
   obtain ⟨ha,hb,ho,hop⟩:=hab;have e8:(bif (bif (bif decide (op≥8) then decide (op≤13) else false) then true else (op==26)) then true else (op==27))=true:=by
    rcases hop with ⟨h1,h2⟩|rfl|rfl
    ·rw [dT h1,dT h2];rfl
    ·rfl
    ·rfl
   rw [eqF (show op≠4 by omega),eqF (show op≠5 by omega),Ao (c:=false) rfl,Ao (c:=false) rfl,eqF (show op≠6 by omega),eqF (show op≠7 by omega),eqF (show op≠25 by omega),Ao (c:=false) rfl,Ao (c:=false) rfl,Ao (c:=false) rfl,Bf e8,hL,neF rfl,Ao (c:=false) rfl,dF (A1i (Int.le_refl 0) (Int.le_refl 0) (Int.le_refl 0)),Ao (c:=false) rfl,dF (show ¬(0:Int)>0 by omega),Ao (c:=false) rfl,dF (A1h (Int.le_refl 0) (Int.le_refl 0)),Ao (c:=false) rfl];exact fin false _ A7i ha hb ho
end Go.Proofs.YtkjnafecmjakcaaGreatDoor
namespace Go.Proofs.YtkjnafecmjakcaaGreatDoor
open Go Go.RowKit Go.Eng
set_option maxRecDepth 10000
set_option linter.unusedVariables false
set_option linter.unusedSimpArgs false
def tb (l:List UInt8):ByteArray:=⟨l.toArray⟩
theorem A6e (a b:List UInt8):tb a++tb b=tb (a++b):=by
 apply ByteArray.ext;show (tb a++tb b).data=_;rw [ByteArray.data_append];simp [tb]
theorem A0n (a:List UInt8):(tb a).size=a.length:=by simp [tb,ByteArray.size]
theorem A3c {a b:List UInt8} (h:tb a=tb b):a=b:=by
 have:=congrArg (fun x:ByteArray=>x.data.toList) h
 simpa [tb] using this
theorem Tx {β:Type} {a b:List UInt8} {f:ByteArray→Option β} (h:a.length+b.length≤9000000000):(P4 (tb a) (tb b)).bind f=f (tb (a++b)):=by
 unfold P4;rw [if_pos (by rw [A0n,A0n];omega),sbd,A6e]
def wd (op:Int):List UInt8:=((C0.1[op.toNat]?).getD ⟨#[]⟩).data.toList
theorem wdb {β:Type} {op:Int} {f:ByteArray→Option β} (h:0≤op∧op≤27):(Xh C0 op).bind f=f (tb (wd op)):=by
 unfold Xh;have hl:op.toNat<C0.1.length:=by rw [C0.2];omega
 rw [D9 op.toNat (C0.1[op.toNat]) (by omega) (List.getElem?_eq_getElem hl)];unfold wd;rw [List.getElem?_eq_getElem hl]
 congr 1
def textT:T→List UInt8
 | .leaf op v=>if op=14 then Lib.itoa v else wd op
 | .un op r g a=>if op=3 then wd 3++(32::textT a) else wd op++(32::(Lib.itoa r++(32::(Lib.itoa g++(32::textT a)))))
 | .bin op a b=>if op<14 then 40::(textT a++(32::(wd op++(32::(textT b++[41]))))) else textT a++(32::(wd op++(32::textT b)))
theorem V5 (op:Int):(wd op).length≤6:=by
 have key:∀i:Fin 28,((C0.1[i.val]?).getD ⟨#[]⟩).data.toList.length≤6:=by decide
 unfold wd
 by_cases h:op.toNat<28
 ·exact key ⟨op.toNat,h⟩
 ·rw [List.getElem?_eq_none (by rw [C0.2];omega)];simp
theorem A57:∀(k u:Nat),u<10 ^ (k+1)→Lib.nDigits u≤k+1
 | 0,u,h=>by rw [Lib.nDigits_small (by simpa using h)];omega
 | k+1,u,h=>by
  by_cases hu:u<10
  ·rw [Lib.nDigits_small hu];omega
  ·rw [Lib.nDigits_big hu];have:=A57 k (u/10) (by rw [Nat.pow_succ] at h;omega);omega
theorem S5 {v:Int} (h:0≤v∧v≤1000000000):(Lib.itoa v).length≤10:=by
 obtain ⟨u,rfl⟩:∃u:Nat,v=u:=⟨v.toNat,by omega⟩;rw [Lib.itoa_nonneg,Lib.decDigits_length];exact A57 9 u (by omega)
theorem We:∀(t:T) (k:Bool),okT k t→(textT t).length≤40*t.size:=by
 intro t
 induction t with
 | leaf op v =>
  intro k h;simp only [textT,T.size]
  split
  ·have:=S5 (v:=v) (by cases k<;>simp only [okT] at h<;>omega);omega
  ·have:=V5 op;omega
 | un op r g a ih =>
  intro k h;have ha:okT true a:=by cases k<;>simp only [okT] at h<;>exact h.2
  have h1:=ih true ha;have hr:0≤r∧r≤1000000000:=by cases k<;>simp only [okT] at h<;>omega
  have hg:0≤g∧g≤1000000000:=by cases k<;>simp only [okT] at h<;>omega
  have:=S5 hr;have:=S5 hg;have:=V5 op;have:=V5 3;simp only [textT,T.size]
  split<;>simp only [List.length_append,List.length_cons]<;>omega
 | bin op a b iha ihb =>
  intro k h;have hab:(∃q,okT q a)∧∃q,okT q b:=by
   cases k<;>simp only [okT] at h
   ·exact ⟨⟨_,h.2.1⟩,⟨_,h.2.2.1⟩⟩
   ·rcases h with h|h
    ·exact ⟨⟨_,h.2.1⟩,⟨_,h.2.2⟩⟩
    ·exact ⟨⟨_,h.2.2.1⟩,⟨_,h.2.2.2⟩⟩
  obtain ⟨⟨q,ha⟩,q',hb⟩:=hab;have:=iha q ha;have:=ihb q' hb;have:=V5 op;simp only [textT,T.size]
  split<;>simp only [List.length_append,List.length_cons,List.length_nil]<;>omega
theorem A2i {β:Type} {F:Nat} {v:Int} {f:ByteArray→Option β} (h:0≤v∧v≤1000000000):(strconv_Itoa F v).bind f=f (tb (Lib.itoa v)):=by
 unfold strconv_Itoa;rw [if_pos (by omega),sbd];rfl
theorem Zx (F:Nat) (p:sift_Node):Ck (F+1) p=Fy F (Ck F) p:=rfl
theorem A39:(⟨#[32]⟩:ByteArray)=tb [32]:=rfl
theorem T2:∀(t:T) (k:Bool) (F:Nat),okT k t→t.size+2≤F→t.size≤1000000→Ck F t.node=some (tb (textT t)):=by
 intro t
 induction t with
 | leaf op v =>
  intro k F h hF _;obtain ⟨F,rfl⟩:∃G,F=G+1:=⟨F-1,by simp only [T.size] at hF;omega⟩;have h0:0≤op∧op≤27:=by cases k<;>simp only [okT] at h<;>omega
  rw [Zx];show Fy F _ ⟨op,v,0,0,[]⟩=_;unfold Fy;dsimp only;rw [wdb h0]
  by_cases h14:op=14
  ·rw [Bf (eqT h14),A2i (by cases k<;>simp only [okT] at h<;>omega)]
   simp only [textT,if_pos h14]
  ·rw [Ao (eqF h14),Ao (eqF (show op≠3 by cases k<;>simp only [okT] at h<;>omega)),Ao (eqF (show (([]:List sift_Node).length:Int)≠1 by simp)),Bf (eqT (show (([]:List sift_Node).length:Int)=0 by simp))]
   simp only [textT,if_neg h14]
 | un op r g a ih =>
  intro k F h hF hs;simp only [T.size] at hF hs;obtain ⟨F,rfl⟩:∃G,F=G+1:=⟨F-1,by omega⟩;have h0:0≤op∧op≤27∧op≠14:=by cases k<;>simp only [okT] at h<;>omega
  have ha:okT true a:=by cases k<;>simp only [okT] at h<;>exact h.2
  have hr:0≤r∧r≤1000000000:=by cases k<;>simp only [okT] at h<;>omega
  have hg:0≤g∧g≤1000000000:=by cases k<;>simp only [okT] at h<;>omega
  have hi:=ih true F ha (by omega) (by omega);have hl:=We a true ha;have l1:=S5 hr;have l2:=S5 hg;have l3:=V5 op;rw [Zx];show Fy F _ ⟨op,0,r,g,[a.node]⟩=_;unfold Fy;dsimp only;rw [wdb ⟨h0.1,h0.2.1⟩,Ao (eqF h0.2.2)]
  by_cases h3:op=3
  ·subst h3;rw [Bf (eqT rfl),A39,Tx (by simp;omega),Wh,hi,sbd,Tx (by simp;omega)];simp only [textT,if_pos,List.append_assoc,List.singleton_append]
  ·rw [Ao (eqF h3),Bf (eqT (show (([a.node]:List sift_Node).length:Int)=1 by simp)),A39,Tx (by simp;omega),A2i hr,Tx (by simp;omega),Tx (by simp;omega),A2i hg,Tx (by simp;omega),Tx (by simp;omega),Wh,hi,sbd,Tx (by simp;omega)];simp only [textT,if_neg h3,List.append_assoc,List.singleton_append,List.cons_append,List.nil_append]
 | bin op a b iha ihb =>
  intro k F h hF hs;simp only [T.size] at hF hs;obtain ⟨F,rfl⟩:∃G,F=G+1:=⟨F-1,by omega⟩;have h0:0≤op∧op≤27∧op≠14∧op≠3:=by cases k<;>simp only [okT] at h<;>omega
  have hab:(∃q,okT q a)∧∃q,okT q b:=by
   cases k<;>simp only [okT] at h
   ·exact ⟨⟨_,h.2.1⟩,⟨_,h.2.2.1⟩⟩
   ·rcases h with h|h
    ·exact ⟨⟨_,h.2.1⟩,⟨_,h.2.2⟩⟩
    ·exact ⟨⟨_,h.2.2.1⟩,⟨_,h.2.2.2⟩⟩
  obtain ⟨⟨q,ha⟩,q',hb⟩:=hab;have hia:=iha q F ha (by omega) (by omega);have hib:=ihb q' F hb (by omega) (by omega);have hl:=We a q ha;have hl2:=We b q' hb;have l3:=V5 op;rw [Zx];show Fy F _ ⟨op,0,0,0,[a.node,b.node]⟩=_;unfold Fy;dsimp only;rw [wdb ⟨h0.1,h0.2.1⟩,Ao (eqF h0.2.2.1),Ao (eqF h0.2.2.2),Ao (eqF (show (([a.node,b.node]:List sift_Node).length:Int)≠1 by simp)),Ao (eqF (show (([a.node,b.node]:List sift_Node).length:Int)≠0 by simp)),
   Wh,hia,sbd,A39,Tx (by simp;omega),Tx (by simp;omega),Tx (by simp;omega),A3y,hib,sbd,Tx (by simp;omega)]
  by_cases h14:op<14
  ·rw [Bf (dT h14),show (⟨#[40]⟩:ByteArray)=tb [40] from rfl,show (⟨#[41]⟩:ByteArray)=tb [41] from rfl,Tx (by simp;omega),Tx (by simp;omega)];simp only [textT,if_pos h14,List.append_assoc,List.singleton_append,List.cons_append,List.nil_append]
  ·rw [Ao (dF h14)];simp only [textT,if_neg h14,List.append_assoc,List.singleton_append,List.cons_append,List.nil_append]
end Go.Proofs.YtkjnafecmjakcaaGreatDoor
namespace Go.Proofs.YtkjnafecmjakcaaGreatDoor
open Go Go.RowKit Go.Eng
set_option maxRecDepth 10000
set_option linter.unusedVariables false
set_option linter.unusedSimpArgs false
def Qj (c:UInt8):Bool:=decide (48≤c.toNat)&&decide (c.toNat≤57)
def Vp (u:List UInt8):Prop:=∀c r,u=c::r→Qj c=false
def V6 (u:List UInt8):Prop:=Vp u∧∀c r,u=32::c::r→c≠43∧c≠45
theorem T0 (r:List UInt8):Vp (32::r):=fun c q h=>by cases h;rfl
theorem Z8:∀(n:Nat),∀c∈Lib.decDigits n,Qj c=true:=by
 intro n
 induction n using Nat.strongRecOn with
 | _ n ih =>
  have one:∀i:Fin 10,Qj (UInt8.ofNat (48+i.val))=true:=by decide
  intro c hc;rw [Lib.decDigits] at hc
  split at hc
  ·rename_i h
   rw [List.mem_singleton] at hc;subst hc;exact one ⟨n,h⟩
  ·rcases List.mem_append.1 hc with hc|hc
   ·exact ih (n/10) (by omega) c hc
   ·rw [List.mem_singleton] at hc;subst hc;exact one ⟨n%10,Nat.mod_lt _ (by omega)⟩
def A3h (l:List UInt8):Nat:=l.foldl (fun a c=>10*a+(c.toNat-48)) 0
theorem A06 (n:Nat):A3h (Lib.decDigits n)=n:=by
 induction n using Nat.strongRecOn with
 | _ n ih =>
  have one:∀i:Fin 10,(UInt8.ofNat (48+i.val)).toNat-48=i.val:=by decide
  rw [Lib.decDigits]
  split
  ·rename_i h
   show 10*0+((UInt8.ofNat (48+n)).toNat-48)=n;rw [one ⟨n,h⟩];show 10*0+n=n;omega
  ·have e:=ih (n/10) (by omega);unfold A3h at e ⊢;rw [List.foldl_append,e];show 10*(n/10)+((UInt8.ofNat (48+n%10)).toNat-48)=n;rw [one ⟨n%10,Nat.mod_lt _ (by omega)⟩];show 10*(n/10)+n%10=n;omega
theorem A0m {l x:List UInt8} (hl:∀c∈l,Qj c=true) (hx:Vp x):(l++x).takeWhile Qj=l:=by
 induction l with
 | nil =>
  cases x with
  | nil=>rfl
  | cons c r=>simp [hx c r rfl]
 | cons c l ih=>simp [hl c (by simp),ih (fun d hd=>hl d (by simp [hd]))]
theorem Zo {v v':Int} {x y:List UInt8} (h0:0≤v) (h1:0≤v') (hx:Vp x) (hy:Vp y) (h:Lib.itoa v++x=Lib.itoa v'++y):v=v'∧x=y:=by
 obtain ⟨a,rfl⟩:∃a:Nat,v=a:=⟨v.toNat,by omega⟩;obtain ⟨b,rfl⟩:∃b:Nat,v'=b:=⟨v'.toNat,by omega⟩;rw [Lib.itoa_nonneg,Lib.itoa_nonneg] at h;have e:=congrArg (List.takeWhile Qj) h;rw [A0m (Z8 a) hx,A0m (Z8 b) hy] at e;have e2:=congrArg A3h e;rw [A06,A06] at e2;subst e2;exact ⟨rfl,List.append_cancel_left h⟩
theorem A1d {v:Int} (h:0≤v):∃c r,Lib.itoa v=c::r∧Qj c=true:=by
 obtain ⟨a,rfl⟩:∃a:Nat,v=a:=⟨v.toNat,by omega⟩;rw [Lib.itoa_nonneg]
 cases hd:Lib.decDigits a with
 | nil =>
  have:=Lib.decDigits_length a;rw [hd] at this;have:=Lib.nDigits_pos a;simp at *;omega
 | cons c r=>exact ⟨c,r,rfl,Z8 a c (by rw [hd];simp)⟩
def U2:List Int:=[1,2,3,6,7,15,16,17,18,19,20,21,22,23,24,25]
def Um:List Int:=[4,5,8,9,10,11,12,13]
theorem Vx:∀a∈U2,∀b∈U2,List.isPrefixOf (wd a) (wd b)=true→a=b:=by decide
theorem Wc:∀a∈Um,∀b∈Um,List.isPrefixOf (wd a++[32]) (wd b++[32])=true→a=b:=by decide
theorem A19:∀a∈U2,∃c r,wd a=c::r∧Qj c=false∧c≠40:=by
 intro a ha;have key:∀a∈U2,(match wd a with|[]=>false|c::_=>!Qj c&&decide (c≠40))=true:=by decide
 have:=key a ha
 cases hw:wd a with
 | nil=>rw [hw] at this;cases this
 | cons c r =>
  rw [hw] at this;simp at this;exact ⟨c,r,rfl,this.1,this.2⟩
theorem A4x {a b:Int} {x y:List UInt8} (ha:a∈U2) (hb:b∈U2) (h:wd a++x=wd b++y):a=b∧x=y:=by
 have hp:wd a <+: wd b∨wd b <+: wd a:=List.prefix_or_prefix_of_prefix (l₃:=wd a++x) (List.prefix_append _ _) (h▸List.prefix_append _ _);have e:a=b:=by
  rcases hp with hp|hp
  ·exact Vx a ha b hb (List.isPrefixOf_iff_prefix.2 hp)
  ·exact (Vx b hb a ha (List.isPrefixOf_iff_prefix.2 hp)).symm
 subst e;exact ⟨rfl,List.append_cancel_left h⟩
theorem A4k {a b:Int} {x y:List UInt8} (ha:a∈Um) (hb:b∈Um) (h:wd a++(32::x)=wd b++(32::y)):a=b∧x=y:=by
 have h2:(wd a++[32])++x=(wd b++[32])++y:=by simpa using h
 have hp:(wd a++[32]) <+: (wd b++[32])∨(wd b++[32]) <+: (wd a++[32]):=List.prefix_or_prefix_of_prefix (l₃:=(wd a++[32])++x) (List.prefix_append _ _) (h2▸List.prefix_append _ _);have e:a=b:=by
  rcases hp with hp|hp
  ·exact Wc a ha b hb (List.isPrefixOf_iff_prefix.2 hp)
  ·exact (Wc b hb a ha (List.isPrefixOf_iff_prefix.2 hp)).symm
 subst e;exact ⟨rfl,List.append_cancel_left h2⟩
theorem Vf:∀a∈Um,∀r,V6 (32::(wd a++r)):=by
 intro a ha r;have key:∀a∈Um,(match wd a with|[]=>false|c::_=>decide (c≠43)&&decide (c≠45))=true:=by decide
 have:=key a ha;refine ⟨T0 _,fun c q h=>?_⟩
 cases hw:wd a with
 | nil=>rw [hw] at this;cases this
 | cons d s =>
  rw [hw] at this h;simp at this h;rw [←h.1];exact this
def T.hd:T→T
 | .bin op a b=>if op<14 then .bin op a b else a.hd
 | t=>t
def T.tl:T→List (Int×T)
 | .bin op a b=>if op<14 then [] else a.tl++[(op,b)]
 | _=>[]
def T.mk (h:T) (l:List (Int×T)):T:=l.foldl (fun a p=>.bin p.1 a p.2) h
theorem T.eta (t:T):T.mk t.hd t.tl=t:=by
 induction t with
 | leaf op v=>rfl
 | un op r g a ih=>rfl
 | bin op a b iha ihb =>
  unfold T.hd T.tl
  split
  ·rfl
  ·unfold T.mk at *;rw [List.foldl_append,iha];rfl
def Pr (l:List (Int×T)):List UInt8:=l.flatMap fun p=>32::(wd p.1++(32::textT p.2))
theorem Yu (t:T):textT t=textT t.hd++Pr t.tl:=by
 induction t with
 | leaf op v=>simp [T.hd,T.tl,Pr]
 | un op r g a ih=>simp [T.hd,T.tl,Pr]
 | bin op a b iha ihb =>
  by_cases h:op<14
  ·simp only [T.hd,T.tl,if_pos h,Pr,List.flatMap_nil,List.append_nil]
  ·simp only [T.hd,T.tl,if_neg h];rw [textT,if_neg h,iha];unfold Pr;simp
def Itm (t:T):Prop:=t.op<26∧∃k,okT k t
theorem T.hd_size (t:T):t.hd.size≤t.size:=by
 induction t with
 | leaf op v=>exact Nat.le_refl _
 | un op r g a ih=>exact Nat.le_refl _
 | bin op a b iha ihb =>
  unfold T.hd
  split
  ·exact Nat.le_refl _
  ·simp only [T.size];omega
theorem A54:∀(t:T) (k:Bool),okT k t→Itm t.hd∧∀p∈t.tl,(p.1=26∨p.1=27)∧Itm p.2∧p.2.size<t.size:=by
 intro t
 induction t with
 | leaf op v=>intro k h;exact ⟨⟨by show op<26;cases k<;>simp only [okT] at h<;>omega,k,h⟩,fun p hp=>by simp [T.tl] at hp⟩
 | un op r g a ih=>intro k h;exact ⟨⟨by show op<26;cases k<;>simp only [okT] at h<;>omega,k,h⟩,fun p hp=>by simp [T.tl] at hp⟩
 | bin op a b iha ihb =>
  intro k h
  by_cases hop:op<14
  ·simp only [T.hd,T.tl,if_pos hop];exact ⟨⟨by show op<26;omega,k,h⟩,fun p hp=>by simp at hp⟩
  ·simp only [T.hd,T.tl,if_neg hop];have hk:(op=26∨op=27)∧okT false a∧okT false b∧b.op<26:=by
    cases k<;>simp only [okT] at h
    ·exact h
    ·omega
   obtain ⟨h1,h2,h3,h4⟩:=hk;obtain ⟨i1,i2⟩:=iha false h2;refine ⟨i1,fun p hp=>?_⟩;rcases List.mem_append.1 hp with hp|hp
   ·obtain ⟨j1,j2,j3⟩:=i2 p hp;exact ⟨j1,j2,by simp only [T.size];omega⟩
   ·simp at hp;subst hp;exact ⟨h1,⟨h4,_,h3⟩,by simp only [T.size];have:=a.size_pos;omega⟩
def PCi (n:Nat):Prop:=∀t t':T,t.size≤n→Itm t→Itm t'→∀u u',Vp u→Vp u'→textT t++u=textT t'++u'→t=t'∧u=u'
def PCa (n:Nat):Prop:=∀(t t':T) (k k':Bool),t.size≤n→okT k t→okT k' t'→∀u u',V6 u→V6 u'→textT t++u=textT t'++u'→t=t'∧u=u'
theorem T1 {l:List (Int×T)} {u:List UInt8} (h:Vp u):Vp (Pr l++u):=by
 cases l with
 | nil=>exact h
 | cons p l=>exact T0 _
theorem A4v:wd 26=[43]:=by decide
theorem A4w:wd 27=[45]:=by decide
theorem A4q {n:Nat} (hP:PCi n):∀(l l':List (Int×T)),(∀p∈l,(p.1=26∨p.1=27)∧Itm p.2∧p.2.size≤n)→(∀p∈l',(p.1=26∨p.1=27)∧Itm p.2)→∀u u',V6 u→V6 u'→Pr l++u=Pr l'++u'→l=l'∧u=u':=by
 have no:∀(p:Int×T) (l:List (Int×T)) (u u':List UInt8),(p.1=26∨p.1=27)→V6 u→Pr (p::l)++u'=u→False:=by
  intro p l u u' hp hu h;have e:∃c r,u=32::c::r∧(c=43∨c=45):=by
   rw [←h];simp only [Pr,List.flatMap_cons,List.cons_append,List.append_assoc];rcases hp with hp|hp
   ·rw [hp,A4v];exact ⟨43,_,rfl,.inl rfl⟩
   ·rw [hp,A4w];exact ⟨45,_,rfl,.inr rfl⟩
  obtain ⟨c,r,e1,e2⟩:=e;have:=hu.2 c r e1;rcases e2 with rfl|rfl
  ·exact this.1 rfl
  ·exact this.2 rfl
 intro l
 induction l with
 | nil =>
  intro l' _ h2 u u' hu hu' h
  cases l' with
  | nil=>exact ⟨rfl,h⟩
  | cons p l'=>exact (no p l' u u' (h2 p (by simp)).1 hu h.symm).elim
 | cons p l ih =>
  intro l' h1 h2 u u' hu hu' h
  cases l' with
  | nil=>exact (no p l u' u (h1 p (by simp)).1 hu' h).elim
  | cons p' l' =>
   obtain ⟨o1,i1,s1⟩:=h1 p (by simp);obtain ⟨o2,i2⟩:=h2 p' (by simp);simp only [Pr,List.flatMap_cons,List.cons_append,List.append_assoc] at h;have h:=(List.cons.inj h).2;have e:p.1=p'.1∧textT p.2++(Pr l++u)=textT p'.2++(Pr l'++u'):=by
    rcases o1 with o1|o1<;>rcases o2 with o2|o2<;>rw [o1,o2] at h ⊢
    ·exact ⟨rfl,by simpa [A4v,Pr] using h⟩
    ·rw [A4v,A4w] at h;simp at h
    ·rw [A4v,A4w] at h;simp at h
    ·exact ⟨rfl,by simpa [A4w,Pr] using h⟩
   obtain ⟨e1,e2⟩:=hP p.2 p'.2 s1 i1 i2 _ _ (T1 hu.1) (T1 hu'.1) e.2;obtain ⟨e3,e4⟩:=ih l' (fun q hq=>h1 q (by simp [hq])) (fun q hq=>h2 q (by simp [hq])) u u' hu hu' e2;refine ⟨?_,e4⟩;rw [e3,show p=p' from Prod.ext e.1 e1]
theorem PCi.all {n:Nat} (h:PCi n):PCa n:=by
 intro t t' k k' hs h1 h2 u u' hu hu' he;obtain ⟨a1,a2⟩:=A54 t k h1;obtain ⟨b1,b2⟩:=A54 t' k' h2;rw [Yu t,Yu t',List.append_assoc,List.append_assoc] at he;obtain ⟨e1,e2⟩:=h t.hd t'.hd (Nat.le_trans t.hd_size hs) a1 b1 _ _ (T1 hu.1) (T1 hu'.1) he;obtain ⟨e3,e4⟩:=A4q h t.tl t'.tl (fun p hp=>⟨(a2 p hp).1,(a2 p hp).2.1,by have:=(a2 p hp).2.2;omega⟩) (fun p hp=>⟨(b2 p hp).1,(b2 p hp).2.1⟩) u u' hu hu' e2;refine ⟨?_,e4⟩;rw [←t.eta,←t'.eta,e1,e3]
theorem A0s {c:UInt8} {x y:List UInt8} (h:c::x=c::y):x=y:=(List.cons.inj h).2
theorem Uy {op:Int} (h:op=1∨op=2∨op=3∨op=6∨op=7∨(15≤op∧op≤25)):op∈U2:=by
 have:op=1∨op=2∨op=3∨op=6∨op=7∨op=15∨op=16∨op=17∨op=18∨op=19∨op=20∨op=21∨op=22∨op=23∨op=24∨op=25:=by omega
 simp [U2];omega
theorem X5 {op:Int} (h:op=4∨op=5∨(8≤op∧op≤13)):op∈Um:=by simp [Um];omega
inductive Beg where
 | num (v:Int)
 | word (op:Int) (r:List UInt8)
 | open_ (r:List UInt8)
def Beg.tx:Beg→List UInt8
 | .num v=>Lib.itoa v
 | .word op r=>wd op++r
 | .open_ r=>40::r
def Beg.ok:Beg→Prop
 | .num v=>0≤v
 | .word op _=>op∈U2
 | .open_ _=>True
theorem A5g {a b:Beg} {u u':List UInt8} (ha:a.ok) (hb:b.ok) (hu:Vp u) (hu':Vp u') (h:a.tx++u=b.tx++u') :
  (∃v,a=.num v∧b=.num v∧u=u')∨(∃op r r',a=.word op r∧b=.word op r'∧r++u=r'++u')∨∃r r',a=.open_ r∧b=.open_ r'∧r++u=r'++u':=by
 have first:∀(x:Beg),x.ok→∀w,∃c q,x.tx++w=c::q∧(match x with|.num _=>Qj c=true|.word _ _=>Qj c=false∧c≠40|.open_ _=>c=40):=by
  intro x hx w
  cases x with
  | num v =>
   obtain ⟨c,r,e,hd⟩:=A1d hx;exact ⟨c,r++w,by show Lib.itoa v++w=_;rw [e];rfl,hd⟩
  | word op r =>
   obtain ⟨c,s,e,h1,h2⟩:=A19 op hx;exact ⟨c,s++r++w,by show wd op++r++w=_;rw [e];rfl,h1,h2⟩
  | open_ r=>exact ⟨40,r++w,rfl,rfl⟩
 obtain ⟨c,q,e1,k1⟩:=first a ha u
 obtain ⟨c',q',e2,k2⟩:=first b hb u'
 have hc:c=c':=by rw [e1,e2] at h;exact (List.cons.inj h).1
 subst hc;have d40:Qj 40=false:=by decide
 cases a with
 | num v =>
  cases b with
  | num v' =>
   obtain ⟨rfl,e⟩:=Zo ha hb hu hu' h;exact .inl ⟨v,rfl,rfl,e⟩
  | word op r =>
   have k1:Qj c=true:=k1;have k2:Qj c=false∧c≠40:=k2;rw [k1] at k2;cases k2.1
  | open_ r =>
   have k1:Qj c=true:=k1;have k2:c=40:=k2;subst k2;rw [d40] at k1;cases k1
 | word op r =>
  cases b with
  | num v' =>
   have k1:Qj c=false∧c≠40:=k1;have k2:Qj c=true:=k2;rw [k2] at k1;cases k1.1
  | word op' r' =>
   have h:wd op++r++u=wd op'++r'++u':=h;rw [List.append_assoc,List.append_assoc] at h;obtain ⟨rfl,e⟩:=A4x ha hb h;exact .inr (.inl ⟨op,r,r',rfl,rfl,e⟩)
  | open_ r' =>
   have k1:Qj c=false∧c≠40:=k1;have k2:c=40:=k2;exact (k1.2 k2).elim
 | open_ r =>
  have k1:c=40:=k1
  cases b with
  | num v' =>
   have k2:Qj c=true:=k2;subst k1;rw [d40] at k2;cases k2
  | word op' r' =>
   have k2:Qj c=false∧c≠40:=k2;exact (k2.2 k1).elim
  | open_ r'=>exact .inr (.inr ⟨r,r',rfl,rfl,(List.cons.inj h).2⟩)
def T.beg:T→Beg
 | .leaf op v=>if op=14 then .num v else .word op []
 | .un op r g a=>if op=3 then .word 3 (32::textT a) else .word op (32::(Lib.itoa r++(32::(Lib.itoa g++(32::textT a)))))
 | .bin op a b=>.open_ (textT a++(32::(wd op++(32::(textT b++[41])))))
theorem A20 {t:T} (h:Itm t):t.beg.ok∧textT t=t.beg.tx:=by
 obtain ⟨h1,k,h2⟩:=h
 cases t with
 | leaf op v =>
  have h1:op<26:=h1
  by_cases q:op=14
  ·simp only [T.beg,textT,if_pos q];exact ⟨by show 0≤v;cases k<;>simp only [okT] at h2<;>omega,rfl⟩
  ·simp only [T.beg,textT,if_neg q];exact ⟨Uy (by cases k<;>simp only [okT] at h2<;>omega),(List.append_nil _).symm⟩
 | un op r g a =>
  have h1:op<26:=h1
  by_cases q:op=3
  ·simp only [T.beg,textT,if_pos q];exact ⟨Uy (by omega),rfl⟩
  ·simp only [T.beg,textT,if_neg q];exact ⟨Uy (by cases k<;>simp only [okT] at h2<;>omega),rfl⟩
 | bin op a b =>
  have h3:op<14:=by
   have h1:op<26:=h1
   cases k<;>simp only [okT] at h2<;>omega
  simp only [T.beg,textT,if_pos h3];exact ⟨trivial,rfl⟩
theorem A0u (op v:Int):(op=14∧(T.leaf op v).beg=.num v)∨(op≠14∧(T.leaf op v).beg=.word op []):=by
 by_cases q:op=14
 ·exact .inl ⟨q,by simp only [T.beg,if_pos q]⟩
 ·exact .inr ⟨q,by simp only [T.beg,if_neg q]⟩
theorem A0v (op r g:Int) (a:T):(op=3∧(T.un op r g a).beg=.word 3 (32::textT a))∨(op≠3∧(T.un op r g a).beg=.word op (32::(Lib.itoa r++(32::(Lib.itoa g++(32::textT a)))))):=by
 by_cases q:op=3
 ·exact .inl ⟨q,by simp only [T.beg,if_pos q]⟩
 ·exact .inr ⟨q,by simp only [T.beg,if_neg q]⟩
theorem A3l (op:Int) (a b:T):(T.bin op a b).beg=.open_ (textT a++(32::(wd op++(32::(textT b++[41]))))):=rfl
theorem okL {k:Bool} {op v:Int} (h:okT k (.leaf op v)):0≤v∧(op≠14→v=0)∧op≠3∧(op<7∨op=14∨(15≤op∧op≤25)):=by cases k<;>simp only [okT] at h<;>omega
theorem okU {k:Bool} {op r g:Int} {x:T} (h:okT k (.un op r g x)):okT true x∧0≤r∧0≤g∧(op=3→r=0∧g=0):=by
 cases k<;>simp only [okT] at h
 ·exact ⟨h.2,by omega,by omega,by omega⟩
 ·exact ⟨h.2,by omega,by omega,by omega⟩
theorem A49 {k k':Bool} {op v r g:Int} {x:T} (h:okT k (.leaf op v)) (h':okT k' (.un op r g x)):False:=by cases k<;>cases k'<;>simp only [okT] at h h'<;>omega
theorem okB {k:Bool} {op:Int} {a b:T} (h:okT k (.bin op a b)) (h2:op<26):(∃q,okT q a)∧(∃q,okT q b)∧op∈Um:=by
 cases k<;>simp only [okT] at h
 ·omega
 ·rcases h with h|h
  ·exact ⟨⟨_,h.2.1⟩,⟨_,h.2.2⟩,X5 (by omega)⟩
  ·exact ⟨⟨_,h.2.2.1⟩,⟨_,h.2.2.2⟩,X5 (by omega)⟩
theorem U4 {x:T} (h:okT true x):Itm x:=⟨by cases x<;>simp only [okT] at h<;>simp only [T.op]<;>omega,_,h⟩
theorem A4a:∀n,PCi n:=by
 intro n
 induction n with
 | zero=>intro t t' hs;have:=t.size_pos;omega
 | succ n ih =>
  have hA:=ih.all;intro t t' hs h1 h2 u u' hu hu' he;obtain ⟨a1,a2⟩:=A20 h1;obtain ⟨b1,b2⟩:=A20 h2;rw [a2,b2] at he;obtain ⟨h3,k,h4⟩:=h1;obtain ⟨h5,k',h6⟩:=h2;have paren:∀r,V6 (41::r):=fun r=>⟨fun c q h=>by cases h;rfl,fun c q h=>by cases h⟩
  have he:=A5g a1 b1 hu hu' he
  cases t with
  | leaf op1 w =>
   obtain ⟨o1,o2,-,-⟩:=okL h4
   cases t' with
   | leaf op2 w' =>
    obtain ⟨o3,o4,-,-⟩:=okL h6;rcases A0u op1 w with ⟨q1,q2⟩|⟨q1,q2⟩<;>rcases A0u op2 w' with ⟨q3,q4⟩|⟨q3,q4⟩<;>rw [q2,q4] at he <;>
     rcases he with ⟨v,e1,e2,e3⟩|⟨op,r,r',e1,e2,e3⟩|⟨r,r',e1,e2,e3⟩<;>cases e1<;>cases e2
    ·exact ⟨by rw [q1,q3],e3⟩
    ·exact ⟨by rw [o2 q1,o4 q1],e3⟩
   | un op2 r2 g2 y =>
    exfalso;rcases A0u op1 w with ⟨q1,q2⟩|⟨q1,q2⟩<;>rcases A0v op2 r2 g2 y with ⟨q3,q4⟩|⟨q3,q4⟩<;>rw [q2,q4] at he <;>
     rcases he with ⟨v,e1,e2,e3⟩|⟨op,r,r',e1,e2,e3⟩|⟨r,r',e1,e2,e3⟩<;>cases e1<;>cases e2
    ·subst q3;exact A49 h4 h6
    ·exact A49 h4 h6
   | bin op2 a' b' =>
    exfalso;rcases A0u op1 w with ⟨q1,q2⟩|⟨q1,q2⟩<;>rw [q2,A3l] at he <;>
     rcases he with ⟨v,e1,e2,e3⟩|⟨op,r,r',e1,e2,e3⟩|⟨r,r',e1,e2,e3⟩<;>cases e1<;>cases e2
  | un op1 r1 g1 x =>
   obtain ⟨hx,z1,z2,z3⟩:=okU h4;simp only [T.size] at hs
   cases t' with
   | leaf op2 w' =>
    exfalso;rcases A0v op1 r1 g1 x with ⟨q1,q2⟩|⟨q1,q2⟩<;>rcases A0u op2 w' with ⟨q3,q4⟩|⟨q3,q4⟩<;>rw [q2,q4] at he <;>
     rcases he with ⟨v,e1,e2,e3⟩|⟨op,r,r',e1,e2,e3⟩|⟨r,r',e1,e2,e3⟩<;>cases e1<;>cases e2
    ·subst q1;exact A49 h6 h4
    ·exact A49 h6 h4
   | un op2 r2 g2 y =>
    obtain ⟨hy,y1,y2,y3⟩:=okU h6;rcases A0v op1 r1 g1 x with ⟨q1,q2⟩|⟨q1,q2⟩<;>rcases A0v op2 r2 g2 y with ⟨q3,q4⟩|⟨q3,q4⟩<;>rw [q2,q4] at he <;>
     rcases he with ⟨v,e1,e2,e3⟩|⟨op,r,r',e1,e2,e3⟩|⟨r,r',e1,e2,e3⟩<;>cases e1<;>cases e2
    ·obtain ⟨e4,e5⟩:=ih x y (by omega) (U4 hx) (U4 hy) u u' hu hu' (A0s e3);exact ⟨by rw [q1,q3,(z3 q1).1,(z3 q1).2,(y3 q3).1,(y3 q3).2,e4],e5⟩
    ·exact (q3 rfl).elim
    ·exact (q1 rfl).elim
    ·have e4:=A0s e3;have e4:Lib.itoa r1++(32::(Lib.itoa g1++(32::(textT x++u))))=Lib.itoa r2++(32::(Lib.itoa g2++(32::(textT y++u')))):=by simpa using e4
     obtain ⟨f1,f2⟩:=Zo z1 y1 (T0 _) (T0 _) e4;obtain ⟨f3,f4⟩:=Zo z2 y2 (T0 _) (T0 _) (A0s f2);obtain ⟨f5,f6⟩:=ih x y (by omega) (U4 hx) (U4 hy) u u' hu hu' (A0s f4);exact ⟨by rw [f1,f3,f5],f6⟩
   | bin op2 a' b' =>
    exfalso;rcases A0v op1 r1 g1 x with ⟨q1,q2⟩|⟨q1,q2⟩<;>rw [q2,A3l] at he <;>
     rcases he with ⟨v,e1,e2,e3⟩|⟨op,r,r',e1,e2,e3⟩|⟨r,r',e1,e2,e3⟩<;>cases e1<;>cases e2
  | bin op1 a b =>
   have h3:op1<26:=h3;obtain ⟨⟨q1,oa⟩,⟨q2,ob⟩,os⟩:=okB h4 h3;simp only [T.size] at hs;rw [A3l] at he
   cases t' with
   | leaf op2 w' =>
    exfalso;rcases A0u op2 w' with ⟨q3,q4⟩|⟨q3,q4⟩<;>rw [q4] at he <;>
     rcases he with ⟨v,e1,e2,e3⟩|⟨op,r,r',e1,e2,e3⟩|⟨r,r',e1,e2,e3⟩<;>cases e1<;>cases e2
   | un op2 r2 g2 y =>
    exfalso;rcases A0v op2 r2 g2 y with ⟨q3,q4⟩|⟨q3,q4⟩<;>rw [q4] at he <;>
     rcases he with ⟨v,e1,e2,e3⟩|⟨op,r,r',e1,e2,e3⟩|⟨r,r',e1,e2,e3⟩<;>cases e1<;>cases e2
   | bin op2 a' b' =>
    have h5:op2<26:=h5;obtain ⟨⟨q3,oa'⟩,⟨q4,ob'⟩,os'⟩:=okB h6 h5;rw [A3l] at he;rcases he with ⟨v,e1,e2,e3⟩|⟨op,r,r',e1,e2,e3⟩|⟨r,r',e1,e2,e3⟩<;>cases e1<;>cases e2
    simp only [List.append_assoc,List.cons_append,List.nil_append] at e3;obtain ⟨f1,f2⟩:=hA a a' q1 q3 (by omega) oa oa' _ _ (Vf op1 os _) (Vf op2 os' _) e3;obtain ⟨f3,f4⟩:=A4k os os' (A0s f2);obtain ⟨f5,f6⟩:=hA b b' q2 q4 (by omega) ob ob' _ _ (paren _) (paren _) f4;exact ⟨by rw [f1,f3,f5],A0s f6⟩
theorem Yv {t t':T} {k k':Bool} (h:okT k t) (h':okT k' t') (e:textT t=textT t'):t=t' :=
 have sn:V6 []:=⟨(fun _ _ h=>by simp at h),(fun _ _ h=>by simp at h)⟩
 ((A4a t.size).all t t' k k' (Nat.le_refl _) h h' [] [] sn sn (by rw [e])).1
end Go.Proofs.YtkjnafecmjakcaaGreatDoor
namespace Go.Proofs.YtkjnafecmjakcaaGreatDoor
open Go Go.RowKit Go.Eng
set_option maxRecDepth 10000
set_option linter.unusedVariables false
set_option linter.unusedSimpArgs false
def tab {α:Type} (n:Nat) (f:Int→α):List α:=(List.range n).map fun i:Nat=>f (i:Int)
theorem A4p {α:Type} (n:Nat) (f:Int→α):(tab n f).length=n:=by simp [tab]
theorem A0l {α:Type} {n i:Nat} {f:Int→α} (h:i<n):(tab n f)[i]? = some (f i):=by simp [tab,h]
theorem Rz {α β:Type} {n:Nat} {f:Int→α} {g:α→Option β} {i:Int} (h:0≤i∧i<n):(At (tab n f) i).bind g=g (f i):=by
 obtain ⟨j,rfl⟩:∃j:Nat,i=j:=⟨i.toNat,by omega⟩;exact D9 j _ rfl (A0l (by omega))
theorem A3s {α:Type} {L:Nat→Int→Int→List α→Option (List α)} {f:Int→Option α} {g:Int→α} {N:Nat}
  (hL:∀n x i l,L (n+1) x i l=bif decide (i<x) then ((f i).bind fun y=>(At l i).bind fun _=>(Lz l i y).bind fun l'=>(ck (i+1)).bind fun i'=>L n x i' l') else some l)
  (hf:∀i:Int,0≤i→i<N→f i=some (g i)) (hN:N≤1000000) :
  ∀(F j:Nat) (l:List α),l.length=N→N+1≤F+j→j≤N→(∀i:Nat,i<j→l[i]? = some (g i))→L F N j l=some (tab N g):=by
 intro F
 induction F with
 | zero=>intro j l _ h1 h2;omega
 | succ F ih =>
  intro j l hl h1 h2 h3;rw [hL]
  by_cases hj:j<N
  ·rw [Bf (dT (by omega)),hf j (by omega) (by omega),sbd,D9 j _ rfl (List.getElem?_eq_getElem (by omega)),show Lz l (j:Int) (g j)=some (l.set j (g j)) by unfold Lz;rw [if_pos (by omega),Int.toNat_natCast],sbd,ckb (by omega)];refine ih (j+1) _ (by simp [hl]) (by omega) (by omega) fun i hi=>?_
   by_cases e:i=j
   ·subst e;rw [List.getElem?_set_self (by omega)]
   ·rw [List.getElem?_set_ne (by omega)];exact h3 i (by omega)
  ·rw [Ao (dF (by omega))]
   congr 1
   apply List.ext_getElem?;intro i
   by_cases hi:i<N
   ·rw [h3 i (by omega),A0l hi]
   ·rw [List.getElem?_eq_none (by omega),List.getElem?_eq_none (by rw [A4p];omega)]
theorem Pt {α:Type} {L:Nat→Int→Int→List α→Option (List α)} {f:Int→Option α} {g:Int→α} {N F B:Nat} {p:Int} {z:α}
  (hL:∀n x i l,L (n+1) x i l=bif decide (i<x) then ((f i).bind fun y=>(At l i).bind fun _=>(Lz l i y).bind fun l'=>(ck (i+1)).bind fun i'=>L n x i' l') else some l)
  (hf:∀i:Int,0≤i→i<N→f i=some (g i)) (hN:N≤1000000) (hF:N+1≤F) (hp:p=N) (hB:B≤1000) :
  ((mkI B p z).bind fun l=>L F ((l.length:Nat):Int) 0 l)=some (tab N g):=by
 subst hp;have hm:B*N≤1000*1000000:=Nat.mul_le_mul hB hN;unfold mkI;rw [if_pos (by simp only [Int.toNat_natCast];omega),sbd,List.length_replicate];exact A3s hL hf hN F 0 _ (by simp) (by omega) (by omega) (fun i hi=>by omega)
def irg (lo hi:Int):List Int:=(List.range (hi+1-lo).toNat).map fun i:Nat=>lo+(i:Int)
theorem A0e {lo hi:Int} (h:hi<lo):irg lo hi=[]:=by
 unfold irg;rw [show (hi+1-lo).toNat=0 by omega];rfl
theorem Ya {lo hi:Int} (h:lo≤hi):irg lo hi=lo::irg (lo+1) hi:=by
 unfold irg;rw [show (hi+1-lo).toNat=(hi+1-(lo+1)).toNat+1 by omega,List.range_succ_eq_map,List.map_cons,List.map_map]
 congr 1
 ·simp
 ·apply List.map_congr_left;intro i _;show lo+((i+1:Nat):Int)=lo+1+(i:Int);omega
theorem R2 {lo hi x:Int}:x∈irg lo hi↔lo≤x∧x≤hi:=by
 unfold irg;rw [List.mem_map];constructor
 ·rintro ⟨i,h1,h2⟩;have:=List.mem_range.1 h1;omega
 ·rintro ⟨h1,h2⟩;exact ⟨(x-lo).toNat,List.mem_range.2 (by omega),by omega⟩
theorem Zn {q j R m:Int} (h1:0≤q) (h2:q<R) (h3:0≤j) (h4:j<m):0≤q*m+j∧q*m+j<R*m:=by
 have a:0≤q*m:=Int.mul_nonneg h1 (by omega);have b:(q+1)*m≤R*m:=Int.mul_le_mul_of_nonneg_right (by omega) (by omega);rw [Int.add_mul] at b;omega
def nb1 (R m k g b:Int):List Int:=((irg (if k%m-g>0 then k%m-g else 0) (if k%m+g<m-1 then k%m+g else m-1)).map fun j=>(b+R)%R*m+j).filter fun o=>o != k
def nbs (R m k r g:Int):List Int:=(if k/m+r-(k/m-r)≥R then irg 0 (R-1) else irg (k/m-r) (k/m+r)).flatMap (nb1 R m k g)
section
variable {σ:Type} {body:σ→Int→Option (σ×Bool)} {f:σ→Int→σ} {P:σ→Nat→Prop} {d:sift_scan} {R m k r g:Int}
theorem ar4 (hR:((d.s.Rays.length:Nat):Int)=R) (hm:d.s.Site.Gates=m) (hR1:1≤R∧R≤1000) (hm1:1≤m∧m≤1000) (hk:0≤k∧k≤1000000) (hg:0≤g∧g≤3)
  (hb:∀s o c,P s c→0≤o→o<R*m→c≤1000000→body s o=some (f s o,true)∧P (f s o) (c+1)) (b:Int) (hb0:0≤b+R∧b≤1000) (k2:Int→σ→Option (σ×Bool)) :
  ∀(n:Nat) (j:Int) (s:σ) (c:Nat),P s c→0≤j→((if k%m+g<m-1 then k%m+g else m-1)+1-j).toNat+1≤n→c+((if k%m+g<m-1 then k%m+g else m-1)+1-j).toNat≤1000000 →
  ∃c',P ((((irg j (if k%m+g<m-1 then k%m+g else m-1)).map fun j=>(b+R)%R*m+j).filter fun o=>o != k).foldl f s) c'∧c'≤c+((if k%m+g<m-1 then k%m+g else m-1)+1-j).toNat ∧
   Cr body k g d (k%m) b k2 n j s=Dp b k2 ((((irg j (if k%m+g<m-1 then k%m+g else m-1)).map fun j=>(b+R)%R*m+j).filter fun o=>o != k).foldl f s):=by
 have hkm:0≤k%m∧k%m<m:=⟨Int.emod_nonneg _ (by omega),Int.emod_lt_of_pos _ (by omega)⟩;generalize hhi:(if k%m+g<m-1 then k%m+g else m-1)=hi;have hhi2:hi≤m-1:=by subst hhi;split<;>omega
 have hq:0≤(b+R)%R∧(b+R)%R<R:=⟨Int.emod_nonneg _ (by omega),Int.emod_lt_of_pos _ (by omega)⟩;have hMM:R*m≤1000000:=by
  have:=Int.mul_le_mul hR1.2 hm1.2 (by omega) (by omega);omega
 intro n
 induction n with
 | zero=>intro j s c _ _ h;omega
 | succ n ih =>
  intro j s c hP hj hn hc;show ∃c',_∧_∧Dn body k g d (k%m) b k2 (Cr body k g d (k%m) b k2 n) j s=_;unfold Dn;rw [hm,hR,ckb (by omega),ckb (by omega),hhi]
  by_cases hjh:j≤hi
  ·have hin:=Zn hq.1 hq.2 hj (show j<m by omega);have hqm:0≤(b+R)%R*m:=Int.mul_nonneg hq.1 (by omega);rw [Bf (dT hjh),ckb (by omega)];rw [show Pl (b+R) R=some ((b+R)%R) by unfold Pl;rw [if_neg (by omega),Int.tmod_eq_emod_of_nonneg (by omega)],sbd,ckb (by omega),ckb (by omega),Ya hjh,List.map_cons]
   by_cases ho:(b+R)%R*m+j=k
   ·rw [Ao (neF ho),ckb (by omega),List.filter_cons_of_neg (p:=fun o=>o != k) (a:=(b+R)%R*m+j) (by show ¬(((b+R)%R*m+j) != k)=true;rw [neF ho];simp)];obtain ⟨c',h1,h2,h3⟩:=ih (j+1) s c hP (by omega) (by omega) (by omega);exact ⟨c',h1,by omega,h3⟩
   ·obtain ⟨e1,e2⟩:=hb s _ c hP hin.1 hin.2 (by omega);rw [Bf (neT ho),e1,sbd,Bf rfl,ckb (by omega),List.filter_cons_of_pos (p:=fun o=>o != k) (a:=(b+R)%R*m+j) (neT ho),List.foldl_cons];obtain ⟨c',h1,h2,h3⟩:=ih (j+1) _ (c+1) e2 (by omega) (by omega) (by omega);exact ⟨c',h1,by omega,h3⟩
  ·rw [Ao (dF hjh),A0e (by omega)];exact ⟨c,hP,by omega,rfl⟩
theorem ar2 (hR:((d.s.Rays.length:Nat):Int)=R) (hm:d.s.Site.Gates=m) (hR1:1≤R∧R≤1000) (hm1:1≤m∧m≤1000) (hk:0≤k∧k≤1000000) (hg:0≤g∧g≤3)
  (hb:∀s o c,P s c→0≤o→o<R*m→c≤1000000→body s o=some (f s o,true)∧P (f s o) (c+1)) (last:Int) (hl:last≤1000) (F:Nat) (hF:1002≤F) :
  ∀(n:Nat) (b:Int) (s:σ) (c:Nat),P s c→0≤b+R→(last+1-b).toNat+1≤n→c+(last+1-b).toNat*1000≤1000000 →
   C4 F body k g d (k%m) last n b s=some (((irg b last).flatMap (nb1 R m k g)).foldl f s,true):=by
 have hkm:0≤k%m∧k%m<m:=⟨Int.emod_nonneg _ (by omega),Int.emod_lt_of_pos _ (by omega)⟩;intro n
 induction n with
 | zero=>intro b s c _ _ h;omega
 | succ n ih =>
  intro b s c hP hb0 hn hc;show Dm F body k g d (k%m) last (C4 F body k g d (k%m) last n) b s=_;unfold Dm
  by_cases hbl:b≤last
  ·rw [Bf (dT hbl),ckb (by omega),Ya hbl,List.flatMap_cons,List.foldl_append];have hhi:(if k%m+g<m-1 then k%m+g else m-1)≤999:=by split<;>omega
   have hlo:0≤(if k%m-g>0 then k%m-g else 0):=by split<;>omega
   obtain ⟨c',h1,h2,h3⟩:=ar4 hR hm hR1 hm1 hk hg hb b (by omega) (C4 F body k g d (k%m) last n) F (if k%m-g>0 then k%m-g else 0) s c hP hlo (by omega) (by omega);rw [h3];unfold Dp;rw [ckb (by omega)];exact ih (b+1) _ c' h1 (by omega) (by omega) (by omega)
  ·rw [Ao (dF hbl),A0e (by omega)];rfl
theorem Wt (hR:((d.s.Rays.length:Nat):Int)=R) (hm:d.s.Site.Gates=m) (hR1:4≤R∧R≤500) (hm1:1≤m∧m≤1000) (hk:0≤k∧k<R*m) (hr:0≤r∧r≤3) (hg:0≤g∧g≤3)
  (hb:∀s o c,P s c→0≤o→o<R*m→c≤1000000→body s o=some (f s o,true)∧P (f s o) (c+1)) {F:Nat} (hF:1002≤F) {s:σ} (h0:P s 0) :
  E0 F (some d) k r g body s=some ((nbs R m k r g).foldl f s,true):=by
 have hMM:R*m≤500000:=by
  have:=Int.mul_le_mul hR1.2 hm1.2 (by omega) (by omega);omega
 have hd:0≤k/m∧k/m<R:=⟨Int.ediv_nonneg hk.1 (by omega),Int.ediv_lt_of_lt_mul (by omega) hk.2⟩;unfold E0;rw [sbd,hm,hR,show Wn k m=some (k/m) by unfold Wn;rw [if_neg (by omega),Int.tdiv_eq_ediv_of_nonneg hk.1];unfold ck;rw [if_pos (by omega)],sbd,
  show Pl k m=some (k%m) by unfold Pl;rw [if_neg (by omega),Int.tmod_eq_emod_of_nonneg hk.1],sbd,ckb (by omega),ckb (by omega),ckb (by omega)]
 unfold nbs Do
 by_cases h:k/m+r-(k/m-r)≥R
 ·rw [Bf (dT h),if_pos h,ckb (by omega)];exact ar2 hR hm ⟨by omega,by omega⟩ hm1 ⟨hk.1,by omega⟩ hg hb _ (by omega) F hF F 0 s 0 h0 (by omega) (by omega) (by omega)
 ·rw [Ao (dF h),if_neg h];exact ar2 hR hm ⟨by omega,by omega⟩ hm1 ⟨hk.1,by omega⟩ hg hb _ (by omega) F hF F _ s 0 h0 (by omega) (by omega) (by omega)
end
end Go.Proofs.YtkjnafecmjakcaaGreatDoor
namespace Go.Proofs.YtkjnafecmjakcaaGreatDoor
open Go Go.RowKit Go.Eng
set_option maxRecDepth 10000
set_option linter.unusedVariables false
set_option linter.unusedSimpArgs false
def Qq (s:api_Sweep) (k:Int):api_Echo:=((s.Rays[(k/s.Site.Gates).toNat]?.getD [])[(k%s.Site.Gates).toNat]?).getD default
def pt (n:Int):sift_val:=⟨⟨n,n⟩,true⟩
def noV:sift_val:=⟨⟨0,0⟩,false⟩
def S4 (s:api_Sweep) (op v k:Int):sift_val :=
 if op=14 then pt v else if op=21 then pt (Qq s k).Kind else if op=22 then pt (k/s.Site.Gates) else if op=23 then pt (k%s.Site.Gates) else if op=24 then pt s.Tilt else if op=15 then ⟨(Qq s k).Power,true⟩
 else if (Qq s k).Kind=1 then noV else if op=16 then ⟨(Qq s k).Ratio,true⟩ else if op=17 then ⟨(Qq s k).Match,true⟩ else if op=18 then pt (Qq s k).Spread else if (Qq s k).Kind=2 then noV else if op=19 then ⟨(Qq s k).Turn,true⟩ else ⟨⟨(Qq s k).Steps.1.Lo,(Qq s k).Steps.1.Hi⟩,true⟩
def tri (a b:Prop) [Decidable a] [Decidable b]:Int:=if a then 1 else if b then 2 else 3
def mx (a b:Int):Int:=if b>a then b else a
def mn (a b:Int):Int:=if b<a then b else a
def Vh (op:Int) (x y:api_Span):Int :=
 if op=8∨op=10 then tri (x.Hi<y.Lo) (x.Lo<y.Hi) else if op=9∨op=11 then tri (x.Hi≤y.Lo) (x.Lo≤y.Hi)
 else if op=12 then tri (mx x.Hi y.Hi=mn x.Lo y.Lo) (x.Lo≤y.Hi∧y.Lo≤x.Hi) else tri (x.Hi<y.Lo∨y.Hi<x.Lo) (mx x.Hi y.Hi≠mn x.Lo y.Lo)
def A0y (op:Int) (a b:sift_val):Int :=
 if a.has=false∨b.has=false then 3 else if op=10∨op=11 then Vh op b.span a.span else Vh op a.span b.span
def A1q (op:Int) (a b:sift_val):sift_val :=
 if a.has=false∨b.has=false then noV else if op=27 then ⟨⟨a.span.Lo-b.span.Hi,a.span.Hi-b.span.Lo⟩,true⟩ else ⟨⟨a.span.Lo+b.span.Lo,a.span.Hi+b.span.Hi⟩,true⟩
def Pe (op:Int) (l:List Int) (f:Int→Int):Int :=
 if op=6 then l.foldl (fun a o=>mn a (f o)) 3 else l.foldl (fun a o=>mx a (f o)) 1
def Lu (l:List Int) (f:Int→Int):sift_val:=⟨⟨l.countP fun o=>f o==1,l.countP fun o=>f o != 3⟩,true⟩
def T.sem (s:api_Sweep):T→Int→Int×sift_val
 | .leaf op v,k=>(if op=1 then 1 else 3,S4 s op v k)
 | .un op r g a,k=>(if op=3 then 4-(a.sem s k).1 else Pe op (nbs s.Rays.length s.Site.Gates k r g) fun o=>(a.sem s o).1,Lu (nbs s.Rays.length s.Site.Gates k r g) fun o=>(a.sem s o).1)
 | .bin op a b,k=>(if op=4 then mx (a.sem s k).1 (b.sem s k).1 else if op=5 then mn (a.sem s k).1 (b.sem s k).1 else A0y op (a.sem s k).2 (b.sem s k).2,A1q op (a.sem s k).2 (b.sem s k).2)
def bdS (x:api_Span):Prop:=-2147483648≤x.Lo∧x.Lo≤2147483648∧-2147483648≤x.Hi∧x.Hi≤2147483648
def bdE (e:api_Echo):Prop:=bdS e.Power∧bdS e.Ratio∧bdS e.Match∧bdS e.Turn∧bdS e.Steps.1∧bdS e.Steps.2∧0≤e.Kind∧e.Kind≤3∧0≤e.Spread∧e.Spread≤65535
structure Swp (s:api_Sweep) (R m:Nat):Prop where
 hR:s.Rays.length=R
 hm:s.Site.Gates=m
 R4:4≤R∧R≤500
 m1:1≤m∧m≤1000
 N1:R*m≤1000
 rows:∀l∈s.Rays,l.length=m
 bds:∀l∈s.Rays,∀e∈l,bdE e
 tilt:0≤s.Tilt∧s.Tilt≤256
theorem km {R m:Nat} {k:Int} (hm:1≤m) (h:0≤k∧k<(R*m:Nat)):0≤k/m∧k/m<R∧0≤k%m∧k%m<m:=by
 rw [Int.natCast_mul] at h;exact ⟨Int.ediv_nonneg h.1 (by omega),Int.ediv_lt_of_lt_mul (by omega) h.2,Int.emod_nonneg _ (by omega),Int.emod_lt_of_pos _ (by omega)⟩
theorem A0k {s:api_Sweep} {R m:Nat} (h:Swp s R m) {k:Int} (hk:0≤k∧k<(R*m:Nat)) :
  ∃row,s.Rays[(k/m).toNat]? = some row∧row[(k%m).toNat]? = some (Qq s k)∧bdE (Qq s k):=by
 obtain ⟨a,b,c,d⟩:=km h.m1.1 hk;have h1:(k/m).toNat<s.Rays.length:=by rw [h.hR];omega
 have h2:(k%m).toNat<(s.Rays[(k/m).toNat]).length:=by rw [h.rows _ (List.getElem_mem h1)];omega
 have e:Qq s k=(s.Rays[(k/m).toNat])[(k%m).toNat]:=by
  unfold Qq;rw [h.hm,List.getElem?_eq_getElem h1,Option.getD_some,List.getElem?_eq_getElem h2,Option.getD_some]
 refine ⟨_,List.getElem?_eq_getElem h1,?_,?_⟩
 ·rw [e];exact List.getElem?_eq_getElem h2
 ·rw [e];exact h.bds _ (List.getElem_mem h1) _ (List.getElem_mem h2)
theorem A5a {β:Type} {k m:Int} {f:Int→Option β} (hk:0≤k∧k≤1000000) (hm:1≤m):(Wn k m).bind f=f (k/m):=by
 have h0:0≤k/m:=Int.ediv_nonneg hk.1 (by omega);have h1:k/m≤k:=Int.ediv_le_self _ hk.1;unfold Wn;rw [if_neg (by omega),Int.tdiv_eq_ediv_of_nonneg hk.1,ckb (by omega)]
theorem Ro {β:Type} {k m:Int} {f:Int→Option β} (hk:0≤k) (hm:1≤m):(Pl k m).bind f=f (k%m):=by
 unfold Pl;rw [if_neg (by omega),Int.tmod_eq_emod_of_nonneg hk];rfl
theorem Swp.lt {s:api_Sweep} {R m:Nat} (h:Swp s R m) {k:Int} (hk:0≤k∧k<(R*m:Nat)):k≤1000000:=by have:=h.N1;omega
theorem A2d {s:api_Sweep} {R m:Nat} (h:Swp s R m) {k:Int} (hk:0≤k∧k<(R*m:Nat)) (F:Nat) {d:sift_scan} (hd:d.s=s) (p:sift_Node) :
  Ea F k (some d) p=some (S4 s p.Op p.Value_ k):=by
 obtain ⟨row,h1,h2,-⟩:=A0k h hk;obtain ⟨a,b,c,e⟩:=km h.m1.1 hk;have h3:=h.m1;have h4:=h.lt hk;unfold Ea;rw [sbd,hd,h.hm,A5a ⟨hk.1,h4⟩ (by omega),D9 (k/m).toNat row (by omega) h1,Ro hk.1 (by omega),D9 (k%m).toNat _ (by omega) h2,A5a ⟨hk.1,h4⟩ (by omega),Ro hk.1 (by omega)];unfold S4 A3;rw [h.hm];simp only [Bool.cond_eq_ite,beq_iff_eq,apply_ite some];rfl
theorem A1t {a b:Bool} {p q:Prop} [Decidable p] [Decidable q] (h1:a=true↔p) (h2:b=true↔q):Bh a b=some (tri p q):=by
 unfold Bh tri
 by_cases hp:p
 ·rw [Bf (h1.2 hp),if_pos hp]
 ·rw [Ao (by cases a<;>simp_all),if_neg hp]
  by_cases hq:q
  ·rw [Bf (h2.2 hq),if_pos hq]
  ·rw [Ao (by cases b<;>simp_all),if_neg hq]
theorem A6i {p q:Prop} [Decidable p] [Decidable q]:(bif decide p then decide q else false)=true↔p∧q:=by by_cases h:p<;>simp [h]
theorem orB {p q:Prop} [Decidable p] [Decidable q]:(bif decide p then true else decide q)=true↔p∨q:=by by_cases h:p<;>simp [h]
theorem A51 {op:Int} {x y:api_Span} (h:op=8∨op=10):Vh op x y=tri (x.Hi<y.Lo) (x.Lo<y.Hi):=by unfold Vh;rw [if_pos h]
theorem A52 {op:Int} {x y:api_Span} (h:op=9∨op=11):Vh op x y=tri (x.Hi≤y.Lo) (x.Lo≤y.Hi):=by
 have h1:¬(op=8∨op=10):=by omega
 unfold Vh;rw [if_neg h1,if_pos h]
theorem A5j {x y:api_Span}:Vh 12 x y=tri (mx x.Hi y.Hi=mn x.Lo y.Lo) (x.Lo≤y.Hi∧y.Lo≤x.Hi):=rfl
theorem A5k {x y:api_Span}:Vh 13 x y=tri (x.Hi<y.Lo∨y.Hi<x.Lo) (mx x.Hi y.Hi≠mn x.Lo y.Lo):=rfl
theorem A04 {p:sift_Node} {x y:api_Span} (hop:8≤p.Op∧p.Op≤13):Ci p x.Lo x.Hi y.Lo y.Hi=some (Vh p.Op x y):=by
 unfold Ci D5 D6
 by_cases h8:p.Op=8
 ·rw [Bf (eqT h8),Bf (eqT h8),A51 (.inl h8)];exact A1t decide_eq_true_iff decide_eq_true_iff
 rw [Ao (eqF h8)]
 by_cases h10:p.Op=10
 ·rw [Bf (eqT h10),A51 (.inr h10)];exact A1t decide_eq_true_iff decide_eq_true_iff
 rw [Ao (eqF h10)]
 by_cases h9:p.Op=9
 ·rw [Bf (eqT h9),Bf (eqT h9),A52 (.inl h9)];exact A1t decide_eq_true_iff decide_eq_true_iff
 rw [Ao (eqF h9)]
 by_cases h11:p.Op=11
 ·rw [Bf (eqT h11),A52 (.inr h11)];exact A1t decide_eq_true_iff decide_eq_true_iff
 rw [Ao (eqF h11)]
 by_cases h12:p.Op=12
 ·rw [Bf (eqT h12),h12,A5j];exact A1t beq_iff_eq A6i
 have h13:p.Op=13:=by omega
 rw [Ao (eqF h12),Bf (eqT h13),h13,A5k];exact A1t orB bne_iff_ne
theorem A3q {R m:Nat} {f g:Int→sift_val} {k:Int} (hk:0≤k∧k<(R*m:Nat)) (F:Nat) (p:sift_Node) (hop:8≤p.Op∧p.Op≤13) :
  D4 F k (tab (R*m) f) (tab (R*m) g) p=some (A0y p.Op (f k) (g k)):=by
 unfold D4 A0y;rw [Rz hk]
 cases hf:(f k).has
 ·rw [gdF (g:=(!false)==false&&true) rfl,sbd];simp
 ·rw [gdT (g:=(!true)==false&&true) rfl,Rz hk]
  cases hg:(g k).has
  ·simp
  ·rw [Ao (c:=bif !true then true else !true) rfl,Rz hk,Rz hk,if_neg (by simp)]
   by_cases h:p.Op=10∨p.Op=11
   ·rw [Bf (by rcases h with h|h<;>rw [h]<;>rfl),if_pos h,A04 hop]
   ·rw [Ao (by rw [eqF (show p.Op≠10 by omega),eqF (show p.Op≠11 by omega)];rfl),if_neg h,A04 hop]
def bdV (n:Nat) (x:sift_val):Prop:=-((n:Int)*2147483648)≤x.span.Lo∧x.span.Lo≤(n:Int)*2147483648∧-((n:Int)*2147483648)≤x.span.Hi∧x.span.Hi≤(n:Int)*2147483648
theorem Z0 {x:Int} (h:-9000000000000000000≤x∧x≤9000000000000000000):IntKind.i64.wrap (0-x)=-x:=by
 rw [Go.Eng.wrap64 (by omega)];omega
theorem A4o {R m:Nat} {f g:Int→sift_val} {k:Int} (hk:0≤k∧k<(R*m:Nat)) (F:Nat) (p:sift_Node) {u v:Nat} (hf:bdV u (f k)) (hg:bdV v (g k)) (huv:u+v≤1000000) :
  G1 F k (tab (R*m) f) (tab (R*m) g) p=some (A1q p.Op (f k) (g k)):=by
 obtain ⟨f1,f2,f3,f4⟩:=hf;obtain ⟨g1,g2,g3,g4⟩:=hg;unfold G1 A1q Fa;rw [Rz hk]
 cases hf:(f k).has
 ·rw [gdF (g:=(!false)==false&&true) rfl,sbd];simp [noV]
 ·rw [gdT (g:=(!true)==false&&true) rfl,Rz hk]
  cases hg:(g k).has
  ·simp [noV]
  ·rw [Ao (c:=bif !true then true else !true) rfl,Rz hk,Rz hk,if_neg (by simp)]
   by_cases h:p.Op=27
   ·rw [Bf (eqT h),if_pos h,Z0 (by omega),Z0 (by omega),ckb (by omega),ckb (by omega),Int.sub_eq_add_neg,Int.sub_eq_add_neg]
   ·rw [Ao (eqF h),if_neg h,ckb (by omega),ckb (by omega)]
theorem A1j {p:sift_Node} {f:Int→Int} (l:List Int) (x:Int):l.foldl (fun (s:Int×Nat) o=>if p.Op=6 then (mn s.1 (f o),0) else (mx s.1 (f o),0)) (x,0)=(if p.Op=6 then l.foldl (fun a o=>mn a (f o)) x else l.foldl (fun a o=>mx a (f o)) x,0):=by
 induction l generalizing x with
 | nil=>simp
 | cons o l ih =>
  simp only [List.foldl_cons]
  by_cases h:p.Op=6
  ·simp only [if_pos h] at ih ⊢;exact ih _
  ·simp only [if_neg h] at ih ⊢;exact ih _
theorem A45 {s:api_Sweep} {R m:Nat} (h:Swp s R m) {k:Int} (hk:0≤k∧k<(R*m:Nat)) {F:Nat} (hF:1002≤F) {d:sift_scan} (hd:d.s=s) (p:sift_Node) (hop:p.Op=6∨p.Op=7) (hr:0≤p.Rays∧p.Rays≤3) (hg:0≤p.Gates∧p.Gates≤3) (f:Int→Int) :
  F3 F k p (some d) (tab (R*m) f)=some (Pe p.Op (nbs s.Rays.length s.Site.Gates k p.Rays p.Gates) f):=by
 have key:∀x,D7 F k p (some d) (tab (R*m) f) x=some (if p.Op=6 then (nbs R m k p.Rays p.Gates).foldl (fun a o=>mn a (f o)) x else (nbs R m k p.Rays p.Gates).foldl (fun a o=>mx a (f o)) x):=by
  intro x;unfold D7;have:=h.R4;have:=h.m1;rw [Wt (R:=(R:Int)) (m:=(m:Int)) (P:=fun _ _=>True) (f:=fun (s:Int×Nat) o=>if p.Op=6 then (mn s.1 (f o),0) else (mx s.1 (f o),0)) (by rw [hd,h.hR]) (by rw [hd,h.hm]) (by omega) (by omega) ⟨hk.1,by rw [←Int.natCast_mul];exact hk.2⟩ hr hg ?_ hF trivial,sbd,A1j]
  ·rfl
  ·intro s o c _ h1 h2 _;rw [←Int.natCast_mul] at h2;refine ⟨?_,trivial⟩;unfold Gy;rcases hop with e|e
   ·rw [Bf (eqT e),Rz ⟨h1,h2⟩];simp only [if_pos e];rfl
   ·have n6:p.Op≠6:=by omega
    rw [Ao (eqF n6),Rz ⟨h1,h2⟩];simp only [if_neg n6];rfl
 unfold F3 Pe;rw [h.hR,h.hm];rcases hop with e|e
 ·rw [Ao (eqF (by omega)),key];simp only [if_pos e]
 ·have n6:p.Op≠6:=by omega
  rw [Bf (eqT e),key];simp only [if_neg n6]
theorem A24 {f:Int→Int} (l:List Int) (x y:Int):l.foldl (fun (s:Int×Int×Nat) o=>(if f o=1 then s.1+1 else s.1,if f o≠3 then s.2.1+1 else s.2.1,0)) (x,y,0)=(x+l.countP (fun o=>f o==1),y+l.countP (fun o=>f o != 3),0):=by
 induction l generalizing x y with
 | nil=>simp
 | cons o l ih =>
  simp only [List.foldl_cons,List.countP_cons];rw [ih]
  by_cases h1:f o=1<;>by_cases h2:f o=3<;>simp [h1,h2]<;>omega
theorem A25 {s:api_Sweep} {R m:Nat} (h:Swp s R m) {k:Int} (hk:0≤k∧k<(R*m:Nat)) {F:Nat} (hF:1002≤F) {d:sift_scan} (hd:d.s=s) (p:sift_Node) (hr:0≤p.Rays∧p.Rays≤3) (hg:0≤p.Gates∧p.Gates≤3) (f:Int→Int) :
  E8 F k (some d) p (tab (R*m) f)=some (Lu (nbs s.Rays.length s.Site.Gates k p.Rays p.Gates) f):=by
 unfold E8;have:=h.R4;have:=h.m1;rw [Wt (R:=(R:Int)) (m:=(m:Int)) (P:=fun (s:Int×Int×Nat) c=>0≤s.1∧s.1≤c∧0≤s.2.1∧s.2.1≤c) (f:=fun (s:Int×Int×Nat) o=>(if f o=1 then s.1+1 else s.1,if f o≠3 then s.2.1+1 else s.2.1,0)) (by rw [hd,h.hR]) (by rw [hd,h.hm]) (by omega) (by omega) ⟨hk.1,by rw [←Int.natCast_mul];exact hk.2⟩ hr hg ?_ hF (by simp),sbd,A24]
 ·rw [Bf rfl];unfold Lu;rw [h.hR,h.hm];simp
 ·intro s o c hP h1 h2 hc;obtain ⟨p1,p2,p3,p4⟩:=hP;rw [←Int.natCast_mul] at h2;refine ⟨?_,?_⟩
  ·have k2:∀x,D0 (tab (R*m) f) s o x=some ((x,if f o≠3 then s.2.1+1 else s.2.1,0),true):=by
    intro x;unfold D0;rw [Rz ⟨h1,h2⟩]
    by_cases e:f o=3
    ·rw [Ao (neF e),if_neg (by simp [e])]
    ·rw [Bf (neT e),ckb (by omega),if_pos e]
   unfold Gj;rw [Rz ⟨h1,h2⟩]
   by_cases e:f o=1
   ·rw [Bf (eqT e),ckb (by omega),k2,if_pos e]
   ·rw [Ao (eqF e),k2,if_neg e]
  ·dsimp only;refine ⟨?_,?_,?_,?_⟩<;>split<;>omega
end Go.Proofs.YtkjnafecmjakcaaGreatDoor
namespace Go.Proofs.YtkjnafecmjakcaaGreatDoor
open Go Go.RowKit Go.Eng
set_option maxRecDepth 10000
set_option linter.unusedVariables false
set_option linter.unusedSimpArgs false
theorem A0b {α:Type} {P:α→Prop} {f:α→Int→α} (hf:∀a o,P a→P (f a o)):∀(l:List Int) (x:α),P x→P (l.foldl f x):=by
 intro l
 induction l with
 | nil=>intro x h;exact h
 | cons o l ih=>intro x h;exact ih _ (hf _ _ h)
theorem Zy {a b:Prop} [Decidable a] [Decidable b]:1≤tri a b∧tri a b≤3:=by unfold tri;split<;>(try split)<;>omega
theorem A3p {op:Int} {x y:api_Span}:1≤Vh op x y∧Vh op x y≤3:=by
 unfold Vh
 split
 ·exact Zy
 ·split
  ·exact Zy
  ·split<;>exact Zy
theorem A4j (s:api_Sweep):∀(t:T),okT true t→∀k,1≤(t.sem s k).1∧(t.sem s k).1≤3:=by
 intro t
 induction t with
 | leaf op v=>intro h k;simp only [T.sem];split<;>omega
 | un op r g a ih =>
  intro h k;simp only [okT] at h;have ih:=ih h.2;simp only [T.sem]
  split
  ·have:=ih k;omega
  ·unfold Pe
   split
   ·exact A0b (P:=fun x=>1≤x∧x≤3) (fun a o ha=>by have:=ih o;unfold mn;split<;>omega) _ _ (by omega)
   ·exact A0b (P:=fun x=>1≤x∧x≤3) (fun a o ha=>by have:=ih o;unfold mx;split<;>omega) _ _ (by omega)
 | bin op a b iha ihb =>
  intro h k;simp only [okT] at h;simp only [T.sem];rcases h with h|h
  ·have:=iha h.2.1 k;have:=ihb h.2.2 k
   split
   ·unfold mx;split<;>omega
   ·rw [if_pos (by omega)];unfold mn;split<;>omega
  ·rw [if_neg (by omega),if_neg (by omega)];unfold A0y
   split
   ·omega
   ·split<;>exact A3p
theorem Nj {f:Int→List Int} {c:Nat} (hf:∀x,(f x).length≤c):∀l:List Int,(l.flatMap f).length≤l.length*c:=by
 intro l
 induction l with
 | nil=>simp
 | cons x l ih =>
  rw [List.flatMap_cons,List.length_append,List.length_cons,Nat.add_mul];have:=hf x;omega
theorem A44 {R m k r g:Int} (hR:1≤R∧R≤500) (hm:1≤m∧m≤1000) (hr:0≤r∧r≤3):(nbs R m k r g).length≤1000000:=by
 have h1:∀b,(nb1 R m k g b).length≤1000:=by
  intro b;unfold nb1;refine Nat.le_trans (List.length_filter_le _ _) ?_;rw [List.length_map];unfold irg;rw [List.length_map,List.length_range]
  split<;>split<;>omega
 unfold nbs;refine Nat.le_trans (Nj h1 _) ?_;have:(if k/m+r-(k/m-r)≥R then irg 0 (R-1) else irg (k/m-r) (k/m+r)).length≤1000:=by
  unfold irg
  split<;>rw [List.length_map,List.length_range]<;>omega
 omega
theorem Up {x:Int} (h:-2147483648≤x∧x≤2147483648):bdV 1 (pt x):=by unfold bdV pt;dsimp only;omega
theorem Z4 {n:Nat}:bdV n noV:=by unfold bdV noV;dsimp only;omega
theorem Vr {x:api_Span} {b:Bool} (h:bdS x):bdV 1 ⟨x,b⟩:=by unfold bdV;unfold bdS at h;dsimp only;omega
theorem Lm {n:Nat} {c:Prop} [Decidable c] {x y:sift_val} (h1:c→bdV n x) (h2:¬c→bdV n y):bdV n (if c then x else y):=by
 by_cases h:c
 ·rw [if_pos h];exact h1 h
 ·rw [if_neg h];exact h2 h
theorem A36 {s:api_Sweep} {R m:Nat} (h:Swp s R m):∀(t:T),okT false t→∀k:Int,0≤k∧k<(R*m:Nat)→bdV t.size (t.sem s k).2:=by
 intro t
 induction t with
 | leaf op v =>
  intro ho k hk;obtain ⟨row,-,-,e⟩:=A0k h hk;obtain ⟨e1,e2,e3,e4,e5,e6,e7,e8,e9,e10⟩:=e;obtain ⟨a,b,c,d⟩:=km h.m1.1 hk;have:=h.R4;have:=h.m1;have:=h.tilt;simp only [okT] at ho;simp only [T.sem,T.size,S4];rw [h.hm];exact Lm (fun _=>Up (by omega)) fun _=>Lm (fun _=>Up (by omega)) fun _=>Lm (fun _=>Up (by omega)) fun _=>Lm (fun _=>Up (by omega)) fun _=>Lm (fun _=>Up (by omega)) fun _=>Lm (fun _=>Vr e1) fun _=>Lm (fun _=>Z4) fun _=>Lm (fun _=>Vr e2) fun _=>Lm (fun _=>Vr e3) fun _=>Lm (fun _=>Up (by omega)) fun _=>Lm (fun _=>Z4) fun _=>Lm (fun _=>Vr e4) fun _=>Vr e5
 | un op r g a ih =>
  intro ho k hk;simp only [okT] at ho;simp only [T.sem,T.size,Lu];have:=h.R4;have:=h.m1;have h1:=A44 (R:=s.Rays.length) (m:=s.Site.Gates) (k:=k) (r:=r) (g:=g) (by rw [h.hR];omega) (by rw [h.hm];omega) (by omega);have h2:=List.countP_le_length (p:=fun o=>(a.sem s o).1==1) (l:=nbs s.Rays.length s.Site.Gates k r g);have h3:=List.countP_le_length (p:=fun o=>(a.sem s o).1 != 3) (l:=nbs s.Rays.length s.Site.Gates k r g);have:=a.size_pos;unfold bdV;dsimp only;omega
 | bin op a b iha ihb =>
  intro ho k hk;simp only [okT] at ho;have h1:=iha ho.2.1 k hk;have h2:=ihb ho.2.2.1 k hk;simp only [T.sem,T.size,A1q]
  split
  ·exact Z4
  ·unfold bdV at *
   split<;>dsimp only<;>omega
section
variable {κ ν:Type} [DecidableEq κ]
theorem A55 (B:List (κ×ν)) (x y:κ) (v:ν):lkM (upM B x v) y=if y=x then some v else lkM B y:=by
 induction B with
 | nil=>unfold upM lkM;split<;>rfl
 | cons p B ih =>
  unfold upM
  by_cases hx:x=p.1
  ·rw [if_pos hx];unfold lkM
   by_cases hy:y=x
   ·simp [hy]
   ·simp only [if_neg hy];rw [if_neg (by rw [←hx];exact hy)]
  ·rw [if_neg hx];unfold lkM
   by_cases hy:y=p.1
   ·rw [if_pos hy,if_pos hy,if_neg (fun e=>hx (by rw [←e,hy]))]
   ·rw [if_neg hy,if_neg hy,ih]
end
structure Inv (s:api_Sweep) (N:Nat) (d:sift_scan):Prop where
 hs:d.s=s
 hn:d.n=(N:Int)
 ht:∀t l,okT true t→lkM d.tests (tb (textT t))=some l→l=tab N fun k=>(t.sem s k).1
 hv:∀t l,okT false t→lkM d.values (tb (textT t))=some l→l=tab N fun k=>(t.sem s k).2
section
variable {s:api_Sweep} {R m N:Nat} {d d':sift_scan}
theorem Inv.eta (h:Inv s N d) (h':Inv s N d'):sift_scan.mk d.s d.n d'.tests d'.values=d':=by
 cases d;cases d'
 have e1:=h.hs;have e2:=h.hn;have e3:=h'.hs;have e4:=h'.hn;simp only at e1 e2 e3 e4 ⊢;rw [e1,e2,e3,e4]
theorem Inv.upT (h:Inv s N d) {t:T} (ht:okT true t):Inv s N ⟨d.s,d.n,upM d.tests (tb (textT t)) (tab N fun k=>(t.sem s k).1),d.values⟩:=by
 refine ⟨h.hs,h.hn,fun t' l h1 h2=>?_,h.hv⟩;rw [A55] at h2
 by_cases e:tb (textT t')=tb (textT t)
 ·rw [if_pos e] at h2
  cases Yv h1 ht (A3c e)
  cases h2;rfl
 ·rw [if_neg e] at h2;exact h.ht t' l h1 h2
theorem Inv.upV (h:Inv s N d) {t:T} (ht:okT false t):Inv s N ⟨d.s,d.n,d.tests,upM d.values (tb (textT t)) (tab N fun k=>(t.sem s k).2)⟩:=by
 refine ⟨h.hs,h.hn,h.ht,fun t' l h1 h2=>?_⟩;rw [A55] at h2
 by_cases e:tb (textT t')=tb (textT t)
 ·rw [if_pos e] at h2
  cases Yv h1 ht (A3c e)
  cases h2;rfl
 ·rw [if_neg e] at h2;exact h.hv t' l h1 h2
theorem A3g {p:sift_Node} {F:Nat} (hd:Inv s N d) (hN:N≤1000) (hF:2000≤F) (hop:p.Op=1∨p.Op=2):Eb F (some d) p=some (tab N fun _=>if p.Op=1 then 1 else 3):=by
 unfold Eb Hc;rw [sbd,Pt (L:=Dq F p) (f:=fun i=>Ec F i p) (fun _ _ _ _=>rfl) ?_ (by omega) (by omega) hd.hn (by omega)]
 ·rfl
 ·intro i _ _;show Ec F i p=_;unfold Ec;rcases hop with e|e
  ·rw [D9 1 1 (by rw [e];rfl) rfl,if_pos e]
  ·rw [D9 2 3 (by rw [e];rfl) rfl,if_neg (by omega)]
theorem A5y {S:Ag} {V:Ad} {p u:sift_Node} {F:Nat} {f:Int→Int} (hd:Inv s N d) (hN:N≤1000) (hF:2000≤F) (ha:p.Args=[u]) (hS:S d u=some (tab N f,d')) (hd':Inv s N d') (hf:∀k,1≤f k∧f k≤3) :
  Hp F S V d p=some (tab N fun k=>4-f k,d'):=by
 unfold Hp He;rw [ha,Wh,hS,sbd];dsimp only;rw [Pt (L:=Dr F (tab N f)) (f:=fun i=>G0 F i (tab N f)) (g:=fun k=>4-f k) (fun _ _ _ _=>rfl) ?_ (by omega) (by omega) hd.hn (by omega),sbd,hd.eta hd'];intro i h1 h2;show G0 F i _=_;unfold G0;have:=hf i;rw [Rz ⟨h1,h2⟩,ckb (by omega)]
theorem A3m {S:Ag} {V:Ad} {p u v:sift_Node} {F:Nat} {f g:Int→Int} {d1:sift_scan} (hd:Inv s N d) (hN:N≤1000) (hF:2000≤F) (ha:p.Args=[u,v]) (hS:S d u=some (tab N f,d1)) (hd1:Inv s N d1) (hS2:S d1 v=some (tab N g,d')) (hd':Inv s N d') :
  F5 F S V d p=some (tab N fun k=>if p.Op=4 then mx (f k) (g k) else mn (f k) (g k),d'):=by
 unfold F5 Hf;rw [ha,Wh,A3y,hS,sbd];dsimp only;rw [hd.eta hd1,hS2,sbd];dsimp only;rw [Pt (L:=Dt F p (tab N f) (tab N g)) (f:=fun i=>F2 F i p (tab N f) (tab N g)) (g:=fun k=>if p.Op=4 then mx (f k) (g k) else mn (f k) (g k)) (fun _ _ _ _=>rfl) ?_ (by omega) (by omega) hd.hn (by omega),sbd,hd.eta hd'];intro i h1 h2;show F2 F i p _ _=_;unfold F2
 by_cases e:p.Op=4
 ·rw [Bf (eqT e),Rz ⟨h1,h2⟩,Rz ⟨h1,h2⟩];simp only [if_pos e];rfl
 ·rw [Ao (eqF e),Rz ⟨h1,h2⟩,Rz ⟨h1,h2⟩];simp only [if_neg e];rfl
theorem A2q {S:Ag} {V:Ad} {p u:sift_Node} {F:Nat} {f:Int→Int} (h:Swp s R m) (hd:Inv s (R*m) d) (hF:2000≤F) (ha:p.Args=[u]) (hop:p.Op=6∨p.Op=7) (hr:0≤p.Rays∧p.Rays≤3) (hg:0≤p.Gates∧p.Gates≤3) (hS:S d u=some (tab (R*m) f,d')) (hd':Inv s (R*m) d') :
  F6 F S V d p=some (tab (R*m) fun k=>Pe p.Op (nbs s.Rays.length s.Site.Gates k p.Rays p.Gates) f,d'):=by
 have hN:=h.N1;unfold F6 Hg;rw [ha,Wh,hS,sbd];dsimp only;rw [hd.eta hd',Pt (L:=Du F p (some d') (tab (R*m) f)) (f:=fun i=>F3 F i p (some d') (tab (R*m) f)) (g:=fun k=>Pe p.Op (nbs s.Rays.length s.Site.Gates k p.Rays p.Gates) f) (fun _ _ _ _=>rfl) (fun i h1 h2=>A45 h ⟨h1,h2⟩ (by omega) hd'.hs p hop hr hg f) (by omega) (by omega) hd.hn (by omega),sbd]
theorem A3o {S:Ag} {V:Ad} {p u v:sift_Node} {F:Nat} {f g:Int→sift_val} {d1:sift_scan} (h:Swp s R m) (hd:Inv s (R*m) d) (hF:2000≤F) (ha:p.Args=[u,v]) (hop:8≤p.Op∧p.Op≤13) (hS:V d u=some (tab (R*m) f,d1)) (hd1:Inv s (R*m) d1) (hS2:V d1 v=some (tab (R*m) g,d')) (hd':Inv s (R*m) d') :
  Bp F S V d p=some (tab (R*m) fun k=>A0y p.Op (f k) (g k),d'):=by
 have hN:=h.N1;unfold Bp Hh;rw [ha,Wh,A3y,hS,sbd];dsimp only;rw [hd.eta hd1,hS2,sbd];dsimp only;rw [Pt (L:=Dv F (tab (R*m) f) (tab (R*m) g) p) (f:=fun i=>D4 F i (tab (R*m) f) (tab (R*m) g) p) (g:=fun k=>A0y p.Op (f k) (g k)) (fun _ _ _ _=>rfl) (fun i h1 h2=>A3q ⟨h1,h2⟩ F p hop) (by omega) (by omega) hd.hn (by omega),sbd,hd.eta hd']
theorem A14 {p:sift_Node} {F:Nat} (h:Swp s R m) (hd:Inv s (R*m) d) (hF:2000≤F):E9 F (some d) p=some (tab (R*m) fun k=>S4 s p.Op p.Value_ k):=by
 have hN:=h.N1;unfold E9 Ei;rw [sbd,Pt (L:=Cf F (some (sift_scan.mk d.s d.n [] [])) p) (f:=fun i=>Ea F i (some (sift_scan.mk d.s d.n [] [])) p) (g:=fun k=>S4 s p.Op p.Value_ k) (fun _ _ _ _=>rfl) (fun i h1 h2=>A2d h ⟨h1,h2⟩ F hd.hs p) (by omega) (by omega) hd.hn (by omega),sbd]
theorem A0z {S:Ag} {V:Ad} {p u:sift_Node} {F:Nat} {f:Int→Int} (h:Swp s R m) (hd:Inv s (R*m) d) (hF:2000≤F) (ha:p.Args=[u]) (hr:0≤p.Rays∧p.Rays≤3) (hg:0≤p.Gates∧p.Gates≤3) (hS:S d u=some (tab (R*m) f,d')) (hd':Inv s (R*m) d') :
  Fz F S V d p=some (tab (R*m) fun k=>Lu (nbs s.Rays.length s.Site.Gates k p.Rays p.Gates) f,d'):=by
 have hN:=h.N1;unfold Fz Ej;rw [ha,Wh,hS,sbd];dsimp only;rw [hd.eta hd',Pt (L:=Cg F (some d') p (tab (R*m) f)) (f:=fun i=>E8 F i (some d') p (tab (R*m) f)) (g:=fun k=>Lu (nbs s.Rays.length s.Site.Gates k p.Rays p.Gates) f) (fun _ _ _ _=>rfl) (fun i h1 h2=>A25 h ⟨h1,h2⟩ (by omega) hd'.hs p hr hg f) (by omega) (by omega) hd.hn (by omega),sbd]
theorem A4n {S:Ag} {V:Ad} {p u v:sift_Node} {F:Nat} {f g:Int→sift_val} {d1:sift_scan} {a b:Nat} (h:Swp s R m) (hd:Inv s (R*m) d) (hF:2000≤F) (ha:p.Args=[u,v]) (hS:V d u=some (tab (R*m) f,d1)) (hd1:Inv s (R*m) d1) (hS2:V d1 v=some (tab (R*m) g,d')) (hd':Inv s (R*m) d')
  (hf:∀k:Int,0≤k∧k<(R*m:Nat)→bdV a (f k)) (hg:∀k:Int,0≤k∧k<(R*m:Nat)→bdV b (g k)) (hab:a+b≤1000000):Gf F S V d p=some (tab (R*m) fun k=>A1q p.Op (f k) (g k),d'):=by
 have hN:=h.N1;unfold Gf Ek;rw [ha,Wh,A3y,hS,sbd];dsimp only;rw [hd.eta hd1,hS2,sbd];dsimp only;rw [Pt (L:=Ch F (tab (R*m) f) (tab (R*m) g) p) (f:=fun i=>G1 F i (tab (R*m) f) (tab (R*m) g) p) (g:=fun k=>A1q p.Op (f k) (g k)) (fun _ _ _ _=>rfl) (fun i h1 h2=>A4o ⟨h1,h2⟩ F p (hf i ⟨h1,h2⟩) (hg i ⟨h1,h2⟩) hab) (by omega) (by omega) hd.hn (by omega),sbd,hd.eta hd']
end
end Go.Proofs.YtkjnafecmjakcaaGreatDoor
namespace Go.Proofs.YtkjnafecmjakcaaGreatDoor
open Go Go.RowKit Go.Eng
set_option maxRecDepth 10000
set_option linter.unusedVariables false
set_option linter.unusedSimpArgs false
section
variable {F:Nat} {S:Ag} {V:Ad} {d:sift_scan} {p:sift_Node} {key:ByteArray}
theorem Wd (h1:Ck F p=some key) {l:List Int} (h2:lkM d.tests key=some l):B3 F S V d p=some (l,d):=by
 unfold B3;rw [h1,sbd,Bf (by rw [h2];rfl),h2];rfl
theorem V4 (h1:Ck F p=some key) {l:List sift_val} (h2:lkM d.values key=some l):Bk F S V d p=some (l,d):=by
 unfold Bk;rw [h1,sbd,Bf (by rw [h2];rfl),h2];rfl
theorem Zw (h1:Ck F p=some key) (h2:lkM d.tests key=none) (hop:p.Op=1∨p.Op=2) {l:List Int} (h:Eb F (some d) p=some l) :
  B3 F S V d p=some (l,⟨d.s,d.n,upM d.tests key l,d.values⟩):=by
 unfold B3;rw [h1,sbd,Ao (by rw [h2];rfl),h,sbd];rcases hop with e|e<;>simp only [e]<;>rfl
theorem A3e (h1:Ck F p=some key) (h2:lkM d.tests key=none) (hop:p.Op=3) {l:List Int} {d':sift_scan} (h:Hp F S V d p=some (l,d')) :
  B3 F S V d p=some (l,⟨d.s,d.n,upM d'.tests key l,d'.values⟩):=by
 unfold B3;rw [h1,sbd,Ao (by rw [h2];rfl),h,sbd];simp only [hop];rfl
theorem A1r (h1:Ck F p=some key) (h2:lkM d.tests key=none) (hop:p.Op=4∨p.Op=5) {l:List Int} {d':sift_scan} (h:F5 F S V d p=some (l,d')) :
  B3 F S V d p=some (l,⟨d.s,d.n,upM d'.tests key l,d'.values⟩):=by
 unfold B3;rw [h1,sbd,Ao (by rw [h2];rfl),h,sbd];rcases hop with e|e<;>simp only [e]<;>rfl
theorem A1s (h1:Ck F p=some key) (h2:lkM d.tests key=none) (hop:p.Op=6∨p.Op=7) {l:List Int} {d':sift_scan} (h:F6 F S V d p=some (l,d')) :
  B3 F S V d p=some (l,⟨d.s,d.n,upM d'.tests key l,d'.values⟩):=by
 unfold B3;rw [h1,sbd,Ao (by rw [h2];rfl),h,sbd];rcases hop with e|e<;>simp only [e]<;>rfl
theorem A3d (h1:Ck F p=some key) (h2:lkM d.tests key=none) (hop:8≤p.Op∧p.Op≤13) {l:List Int} {d':sift_scan} (h:Bp F S V d p=some (l,d')) :
  B3 F S V d p=some (l,⟨d.s,d.n,upM d'.tests key l,d'.values⟩):=by
 have hop:p.Op=8∨p.Op=9∨p.Op=10∨p.Op=11∨p.Op=12∨p.Op=13:=by omega
 unfold B3;rw [h1,sbd,Ao (by rw [h2];rfl),h,sbd];rcases hop with e|e|e|e|e|e<;>simp only [e]<;>rfl
theorem Yx (h1:Ck F p=some key) (h2:lkM d.values key=none) (hop:p.Op=25) {l:List sift_val} {d':sift_scan} (h:Fz F S V d p=some (l,d')) :
  Bk F S V d p=some (l,⟨d.s,d.n,d'.tests,upM d'.values key l⟩):=by
 unfold Bk;rw [h1,sbd,Ao (by rw [h2];rfl),h,sbd,Bf (eqT hop)]
theorem A1u (h1:Ck F p=some key) (h2:lkM d.values key=none) (hop:p.Op=26∨p.Op=27) {l:List sift_val} {d':sift_scan} (h:Gf F S V d p=some (l,d')) :
  Bk F S V d p=some (l,⟨d.s,d.n,d'.tests,upM d'.values key l⟩):=by
 unfold Bk;rw [h1,sbd,Ao (by rw [h2];rfl),h,sbd];rcases hop with e|e
 ·rw [Ao (eqF (by omega)),Bf (eqT e),Bf (eqT e)]
 ·rw [Ao (eqF (by omega)),Ao (eqF (by omega)),Bf (eqT e)]
theorem Yy (h1:Ck F p=some key) (h2:lkM d.values key=none) (hop:p.Op<25) {l:List sift_val} (h:E9 F (some d) p=some l) :
  Bk F S V d p=some (l,⟨d.s,d.n,d.tests,upM d.values key l⟩):=by
 unfold Bk;rw [h1,sbd,Ao (by rw [h2];rfl),h,sbd,Ao (eqF (by omega)),Ao (eqF (by omega)),Ao (eqF (by omega))]
end
theorem Zv (F:Nat):E4 (F+1)=B3 F (E4 F) (Ky F):=rfl
theorem Xy (F:Nat):Ky (F+1)=Bk F (E4 F) (Ky F):=rfl
theorem A4g {s:api_Sweep} {R m:Nat} (h:Swp s R m):∀(t:T) (F:Nat) (d:sift_scan),t.size+2500≤F→t.size≤1000→Inv s (R*m) d →
  (okT true t→∃d',E4 F d t.node=some (tab (R*m) fun k=>(t.sem s k).1,d')∧Inv s (R*m) d') ∧
  (okT false t→∃d',Ky F d t.node=some (tab (R*m) fun k=>(t.sem s k).2,d')∧Inv s (R*m) d'):=by
 have hN:=h.N1;intro t
 induction t with
 | leaf op v =>
  intro F d hF hs hd;obtain ⟨F,rfl⟩:∃G,F=G+1:=⟨F-1,by omega⟩;simp only [T.size] at hF hs;rw [Zv,Xy];constructor
  ·intro ht;have hx:=T2 _ true F ht (by simp only [T.size];omega) (by simp only [T.size];omega)
   cases hl:lkM d.tests (tb (textT (.leaf op v))) with
   | some l=>exact ⟨d,by rw [Wd hx hl,hd.ht _ l ht hl],hd⟩
   | none =>
    have hop:op=1∨op=2:=by simp only [okT] at ht;omega
    exact ⟨_,Zw hx hl hop (A3g hd hN (by omega) hop),hd.upT ht⟩
  ·intro ht;have hx:=T2 _ false F ht (by simp only [T.size];omega) (by simp only [T.size];omega)
   cases hl:lkM d.values (tb (textT (.leaf op v))) with
   | some l=>exact ⟨d,by rw [V4 hx hl,hd.hv _ l ht hl],hd⟩
   | none =>
    have hop:op<25:=by simp only [okT] at ht;omega
    exact ⟨_,Yy hx hl hop (A14 h hd (by omega)),hd.upV ht⟩
 | un op r g a ih =>
  intro F d hF hs hd;obtain ⟨F,rfl⟩:∃G,F=G+1:=⟨F-1,by omega⟩;simp only [T.size] at hF hs;rw [Zv,Xy];constructor
  ·intro ht;have hx:=T2 _ true F ht (by simp only [T.size];omega) (by simp only [T.size];omega)
   cases hl:lkM d.tests (tb (textT (.un op r g a))) with
   | some l=>exact ⟨d,by rw [Wd hx hl,hd.ht _ l ht hl],hd⟩
   | none =>
    have ho:=ht;simp only [okT] at ho;obtain ⟨d',h1,h2⟩:=(ih F d (by omega) (by omega) hd).1 ho.2;rcases ho.1 with o|o
    ·refine ⟨_,(A3e hx hl o.1 (A5y hd hN (by omega) rfl h1 h2 (A4j s a ho.2))).trans ?_,h2.upT ht⟩;simp only [T.sem,if_pos o.1,hd.hs,hd.hn,h2.hs,h2.hn]
    ·refine ⟨_,(A1s hx hl o.1 (A2q h hd (by omega) rfl o.1 ⟨o.2.1,o.2.2.1⟩ o.2.2.2 h1 h2)).trans ?_,h2.upT ht⟩;simp only [T.sem,if_neg (show op≠3 by omega),hd.hs,hd.hn,h2.hs,h2.hn];rfl
  ·intro ht;have hx:=T2 _ false F ht (by simp only [T.size];omega) (by simp only [T.size];omega)
   cases hl:lkM d.values (tb (textT (.un op r g a))) with
   | some l=>exact ⟨d,by rw [V4 hx hl,hd.hv _ l ht hl],hd⟩
   | none =>
    have ho:=ht;simp only [okT] at ho;obtain ⟨d',h1,h2⟩:=(ih F d (by omega) (by omega) hd).1 ho.2;refine ⟨_,(Yx hx hl ho.1.1 (A0z h hd (by omega) rfl ⟨ho.1.2.1,ho.1.2.2.1⟩ ⟨ho.1.2.2.2.1,ho.1.2.2.2.2⟩ h1 h2)).trans ?_,h2.upV ht⟩;simp only [T.sem,hd.hs,hd.hn,h2.hs,h2.hn];rfl
 | bin op a b iha ihb =>
  intro F d hF hs hd;obtain ⟨F,rfl⟩:∃G,F=G+1:=⟨F-1,by omega⟩;simp only [T.size] at hF hs;rw [Zv,Xy];constructor
  ·intro ht;have hx:=T2 _ true F ht (by simp only [T.size];omega) (by simp only [T.size];omega)
   cases hl:lkM d.tests (tb (textT (.bin op a b))) with
   | some l=>exact ⟨d,by rw [Wd hx hl,hd.ht _ l ht hl],hd⟩
   | none =>
    have ho:=ht;simp only [okT] at ho;rcases ho with o|o
    ·obtain ⟨d1,h1,h2⟩:=(iha F d (by omega) (by omega) hd).1 o.2.1;obtain ⟨d2,h3,h4⟩:=(ihb F d1 (by omega) (by omega) h2).1 o.2.2;refine ⟨_,(A1r hx hl o.1 (A3m hd hN (by omega) rfl h1 h2 h3 h4)).trans ?_,h4.upT ht⟩;have e:(fun k=>if (T.bin op a b).node.Op=4 then mx (a.sem s k).1 (b.sem s k).1 else mn (a.sem s k).1 (b.sem s k).1)=fun k=>((T.bin op a b).sem s k).1:=by
      funext k
      simp only [T.sem,T.node]
      by_cases h4:op=4
      ·simp only [if_pos h4];exact if_pos h4
      ·simp only [if_neg h4,if_pos (show op=5 by omega)];exact if_neg h4
     rw [e,hd.hs,hd.hn,h4.hs,h4.hn]
    ·obtain ⟨d1,h1,h2⟩:=(iha F d (by omega) (by omega) hd).2 o.2.2.1;obtain ⟨d2,h3,h4⟩:=(ihb F d1 (by omega) (by omega) h2).2 o.2.2.2;refine ⟨_,(A3d hx hl ⟨o.1,o.2.1⟩ (A3o h hd (by omega) rfl ⟨o.1,o.2.1⟩ h1 h2 h3 h4)).trans ?_,h4.upT ht⟩;simp only [T.sem,if_neg (show op≠4 by omega),if_neg (show op≠5 by omega),hd.hs,hd.hn,h4.hs,h4.hn];rfl
  ·intro ht;have hx:=T2 _ false F ht (by simp only [T.size];omega) (by simp only [T.size];omega)
   cases hl:lkM d.values (tb (textT (.bin op a b))) with
   | some l=>exact ⟨d,by rw [V4 hx hl,hd.hv _ l ht hl],hd⟩
   | none =>
    have ho:=ht;simp only [okT] at ho;obtain ⟨d1,h1,h2⟩:=(iha F d (by omega) (by omega) hd).2 ho.2.1;obtain ⟨d2,h3,h4⟩:=(ihb F d1 (by omega) (by omega) h2).2 ho.2.2.1;refine ⟨_,(A1u hx hl ho.1 (A4n h hd (by omega) rfl h1 h2 h3 h4 (A36 h a ho.2.1) (A36 h b ho.2.2.1) (by omega))).trans ?_,h4.upV ht⟩;simp only [T.sem,hd.hs,hd.hn,h4.hs,h4.hn];rfl
end Go.Proofs.YtkjnafecmjakcaaGreatDoor
namespace Go.Proofs.YtkjnafecmjakcaaGreatDoor
open Go Go.RowKit Go.Eng
set_option maxRecDepth 10000
set_option linter.unusedVariables false
set_option linter.unusedSimpArgs false
def rlN (p:ByteArray×T):sift_Rule:=⟨p.1,p.2.node⟩
def rl (L:List (ByteArray×T)):List sift_Rule:=L.map rlN
theorem Q6 (L:List (ByteArray×T)):(rl L).length=L.length:=by simp [rl]
theorem W7 {L:List (ByteArray×T)} {i:Nat} {p:ByteArray×T} (h:L[i]? = some p):(rl L)[i]? = some (rlN p):=by simp [rl,h]
structure GoodR (L:List (ByteArray×T)):Prop where
 len:L.length≤32
 size:(L.map (·.2.size)).sum≤300
 names:∀p∈L,∀F,30≤F→beam_Name F p.1=some true∧sift_word F p.1=some false
 distinct:∀(i j:Nat) (p q:ByteArray×T),L[i]? = some p→L[j]? = some q→i<j→p.1≠q.1
 trees:∀p∈L,okT true p.2∧p.2.depth≤12
theorem A3b {L:List (ByteArray×T)} {i:Nat} {p:ByteArray×T} (h:L[i]? = some p):((L.drop i).map (·.2.size)).sum=p.2.size+((L.drop (i+1)).map (·.2.size)).sum:=by
 obtain ⟨h1,h2⟩:=List.getElem?_eq_some_iff.1 h;rw [List.drop_eq_getElem_cons h1,List.map_cons,List.sum_cons,h2]
theorem Xw {L:List (ByteArray×T)} {p:ByteArray×T} (h:p∈L):p.2.size≤(L.map (·.2.size)).sum:=by
 induction L with
 | nil=>cases h
 | cons q L ih =>
  rw [List.map_cons,List.sum_cons];rcases List.mem_cons.1 h with rfl|h
  ·omega
  ·have:=ih h;omega
theorem A0x {l:List sift_Rule} {r:sift_Rule} (hl:l.length≤40) (h:∀(i:Nat) (x:sift_Rule),l[i]? = some x→sEq x.Name r.Name=false):∀(F j:Nat),l.length+1≤F+j→j≤l.length→Au l r F j=some (-1):=by
 intro F
 induction F with
 | zero=>intro j h1 h2;omega
 | succ F ih =>
  intro j h1 h2;show B7 l r _ j=_;unfold B7
  by_cases hj:j<l.length
  ·rw [Bf (dT (by omega)),D9 j _ rfl (List.getElem?_eq_getElem hj)];unfold Mg;rw [Ao (h j _ (List.getElem?_eq_getElem hj)),ckb (by omega)];exact ih (j+1) (by omega) (by omega)
  ·rw [Ao (dF (by omega))];rfl
theorem Y3 {L:List (ByteArray×T)} (h:GoodR L) {F:Nat} (hF:400≤F):J7 F (rl L)=some 0:=by
 have hlen:=h.len;have l3:∀(n j:Nat),L.length+1≤n+j→j≤L.length→Lb F (rl L) n j=some 0:=by
  intro n
  induction n with
  | zero=>intro j h1 h2;omega
  | succ n ih =>
   intro j h1 h2;show L9 F (rl L) _ j=_;unfold L9;rw [Q6]
   by_cases hj:j<L.length
   ·have hp:=List.getElem?_eq_getElem hj;have hm:=List.getElem_mem hj;generalize L[j]=p at hp hm;obtain ⟨n1,n2⟩:=h.names p hm F (by omega);obtain ⟨t1,t2⟩:=h.trees p hm;have hsz:=Nat.le_trans (Xw hm) h.size;have e1:sift_isCondition (rlN p).When=true:=t1.kind.1;rw [Bf (dT (by omega)),D9 j _ rfl (W7 hp),show beam_Name F (rlN p).Name=some true from n1,sbd,gdT (g:=(!true)==false&&true) rfl,show sift_word F (rlN p).Name=some false from n2,sbd,Ao (c:=bif !true then true else false) rfl,
     show Ma (rl L) 0 (j:Int)=some ((rl L).take j) by unfold Ma;rw [if_pos (by rw [Q6];omega)];simp,sbd]
    unfold Bi Bn;rw [show Au ((rl L).take j) (rlN p) F 0=some (-1) from A0x (by simp [Q6];omega) (by
     intro i x hx;obtain ⟨hi,hx2⟩:=List.getElem?_eq_some_iff.1 hx;have hij:i<j:=by simp [Q6] at hi;omega
     rw [List.getElem?_take_of_lt hij] at hx;have hq:=List.getElem?_eq_getElem (show i<L.length by omega);rw [W7 hq] at hx
     cases hx
     have:=h.distinct i j _ _ hq hp hij;exact dF fun e=>this (ByteArray.ext (Array.toList_inj.1 e))) F 0 (by simp [Q6];omega) (by omega),sbd,sbd,Ao (c:=decide ((-1:Int)≥0)) rfl,
     show Js F (rlN p).When=some (p.2.depth:Int) from A3r p.2 F (by omega) (by omega),sbd,Ao (dF (by omega)),e1,gdT (g:=(!true)==false&&true) rfl,show D8 F (rlN p).When=some true from A1p p.2 true F t1 (by omega),sbd,Ao (c:=bif !true then true else !true) rfl,ckb (by omega)]
    exact ih (j+1) (by omega) (by omega)
   ·rw [Ao (dF (by omega))];rfl
 have l4:∀(n j:Nat) (y:Int),L.length+1≤n+j→j≤L.length→0≤y→y+(((L.drop j).map (·.2.size)).sum:Nat)≤300→Lc F (rl L) n j y=some 0:=by
  intro n
  induction n with
  | zero=>intro j y h1 h2;omega
  | succ n ih =>
   intro j y h1 h2 h3 h4;show La F (rl L) _ j y=_;unfold La;rw [Q6]
   by_cases hj:j<L.length
   ·have hp:=List.getElem?_eq_getElem hj;have hm:=List.getElem_mem hj;generalize L[j]=p at hp hm;have hsz:=Nat.le_trans (Xw hm) h.size;rw [A3b hp] at h4;rw [Bf (dT (by omega)),D9 j _ rfl (W7 hp),show Eg F (rlN p).When 300=some (p.2.size:Int) from Z7 p.2 F 300 (by omega) (by omega) (by omega),sbd,ckb (by omega),Ao (dF (by omega)),ckb (by omega)];exact ih (j+1) _ (by omega) (by omega) (by omega) (by omega)
   ·rw [Ao (dF (by omega))];exact l3 F 0 (by omega) (by omega)
 unfold J7;rw [Q6,Ao (dF (by omega))];exact l4 F 0 0 (by omega) (by omega) (by omega) (by rw [List.drop_zero];have:=h.size;omega)
def jv (k:Int):List (Int→Int)→Int→List Int→sift_Verdict
 | [],_,l=>⟨-1,l⟩
 | f::fs,j,l=>if f k=1 then ⟨j,l⟩ else if f k=2 then jv k fs (j+1) (l++[j]) else jv k fs (j+1) l
def jst (R m:Nat) (g:Int→sift_Verdict) (a i:Nat):List (List sift_Verdict) :=
 (List.range R).map fun b=>(List.range (if b<a then m else if b=a then i else 0)).map fun j=>g ((b*m+j:Nat):Int)
theorem U5 (R m:Nat) (g:Int→sift_Verdict) (a i:Nat):(jst R m g a i).length=R:=by simp [jst]
theorem Vn {R m:Nat} {g:Int→sift_Verdict} {a i b:Nat} (hb:b<R):(jst R m g a i)[b]? = some ((List.range (if b<a then m else if b=a then i else 0)).map fun j=>g ((b*m+j:Nat):Int)):=by
 simp [jst,hb]
theorem A2l {R m:Nat} {g:Int→sift_Verdict} {a:Nat}:jst R m g a m=jst R m g (a+1) 0:=by
 unfold jst;apply List.map_congr_left;intro b _
 congr 2
 split<;>(try split)<;>(try split)<;>(try split)<;>omega
theorem A41 {R m:Nat} {g:Int→sift_Verdict} {a i:Nat} (ha:a<R):(jst R m g a i).set a (((List.range i).map fun j=>g ((a*m+j:Nat):Int))++[g ((a*m+i:Nat):Int)])=jst R m g a (i+1):=by
 apply List.ext_getElem?;intro b
 by_cases hb:b<R
 ·rw [Vn hb]
  by_cases e:b=a
  ·subst e;rw [List.getElem?_set_self (by rw [U5];exact hb),if_neg (by omega),if_pos rfl,List.range_succ,List.map_append];rfl
  ·rw [List.getElem?_set_ne (by omega),Vn hb];simp only [if_neg e]
 ·rw [List.getElem?_eq_none (by rw [List.length_set,U5];omega),List.getElem?_eq_none (by rw [U5];omega)]
section
variable {s:api_Sweep} {R m:Nat} {fs:List (Int→Int)}
def Qf (N:Nat) (fs:List (Int→Int)):List (List Int):=fs.map fun f=>tab N f
theorem A6v (h:Swp s R m) (hfs:fs.length≤32) {a i:Nat} (ha:a<R) (hi:i<m) {row:List api_Echo} (hrow:row.length=m) {st:List (List sift_Verdict)} {k5:List (List sift_Verdict)→Int→Option (List (List sift_Verdict)×Int)} {g:Int→sift_Verdict} (hst:st=jst R m g a i) :
  ∀(n j:Nat) (l:List Int),fs.length+1≤n+j→j≤fs.length→l.length≤j→jv ((a*m+i:Nat):Int) (fs.drop j) j l=g ((a*m+i:Nat):Int)→Jr (Qf (R*m) fs) a row st i k5 n l j=k5 (jst R m g a (i+1)) ((i:Int)+1):=by
 have hN:=h.N1;have hk:a*m+i<R*m:=by
  have h1:(a+1)*m≤R*m:=Nat.mul_le_mul_right m (by omega);rw [Nat.add_mul] at h1;omega
 have hm:=h.m1;have e1:(a:Int)*(m:Int)+(i:Int)=((a*m+i:Nat):Int):=by rw [Int.natCast_add,Int.natCast_mul]
 have e2:(a:Int)*(m:Int)=((a*m:Nat):Int):=(Int.natCast_mul ..).symm;have k7:∀(r:Int) (l:List Int),(⟨r,l⟩:sift_Verdict)=g ((a*m+i:Nat):Int)→Jq a st i k5 r l=k5 (jst R m g a (i+1)) ((i:Int)+1):=by
  intro r l hv;have hg:=Vn (R:=R) (m:=m) (g:=g) (a:=a) (i:=i) ha;rw [if_neg (by omega),if_pos rfl] at hg;unfold Jq Nf;rw [hst,D9 a _ rfl hg,hv];rw [show apd 32 ((List.range i).map fun j=>g ((a*m+j:Nat):Int)) [g ((a*m+i:Nat):Int)]=some (((List.range i).map fun j=>g ((a*m+j:Nat):Int))++[g ((a*m+i:Nat):Int)]) by
   unfold apd;rw [if_pos (by simp;omega)],sbd,D9 a _ rfl hg,show Lz (jst R m g a i) (a:Int) (((List.range i).map fun j=>g ((a*m+j:Nat):Int))++[g ((a*m+i:Nat):Int)])=some (jst R m g a (i+1)) by
   unfold Lz;rw [if_pos (by rw [U5];omega),Int.toNat_natCast,A41 ha],sbd,ckb (by omega)]
 intro n
 induction n with
 | zero=>intro j l h1 h2;omega
 | succ n ih =>
  intro j l h1 h2 h3 hv;show Lg (Qf (R*m) fs) a row st i k5 _ l j=_;unfold Lg Li;have hl:(Qf (R*m) fs).length=fs.length:=by simp [Qf]
  rw [hl]
  by_cases hj:j<fs.length
  ·have hx:(Qf (R*m) fs)[j]? = some (tab (R*m) fs[j]):=by simp [Qf,hj]
   rw [List.drop_eq_getElem_cons hj,jv] at hv;rw [Bf (dT (by omega)),D9 j _ rfl hx,hrow,ckb (by rw [e2];omega),ckb (by rw [e1];omega),e1,Rz ⟨by omega,by omega⟩]
   by_cases c1:fs[j] ((a*m+i:Nat):Int)=1
   ·rw [if_pos c1] at hv;rw [Bf (eqT c1)];exact k7 _ _ hv
   ·rw [if_neg c1] at hv;rw [Ao (eqF c1)]
    by_cases c2:fs[j] ((a*m+i:Nat):Int)=2
    ·rw [if_pos c2] at hv;rw [Bf (eqT c2),show apd 8 l [(j:Int)]=some (l++[(j:Int)]) by unfold apd;rw [if_pos (by simp;omega)],sbd,ckb (by omega)];exact ih (j+1) _ (by omega) (by omega) (by simp;omega) hv
    ·rw [if_neg c2] at hv;rw [Ao (eqF c2),ckb (by omega)];exact ih (j+1) _ (by omega) (by omega) (by omega) hv
  ·rw [Ao (dF (by omega))];rw [List.drop_eq_nil_of_le (by omega),jv] at hv;exact k7 _ _ hv
theorem A6u (h:Swp s R m) (hfs:fs.length≤32) {F:Nat} (hF:2000≤F) {a:Nat} (ha:a<R) {row:List api_Echo} (hrow:row.length=m) {k3:List (List sift_Verdict)→Int→Option (List (List sift_Verdict)×Int)} :
  ∀(n i:Nat),m+1≤n+i→i≤m→H5 F (Qf (R*m) fs) a k3 row n (jst R m (fun k=>jv k fs 0 []) a i) i=k3 (jst R m (fun k=>jv k fs 0 []) (a+1) 0) ((a:Int)+1):=by
 have hm:=h.m1;have hR:=h.R4;intro n
 induction n with
 | zero=>intro i h1 h2;omega
 | succ n ih =>
  intro i h1 h2;show Lf F (Qf (R*m) fs) a k3 row _ _ i=_;unfold Lf;rw [hrow]
  by_cases hi:i<m
  ·rw [Bf (dT (by omega)),show Jr (Qf (R*m) fs) a row (jst R m (fun k=>jv k fs 0 []) a i) i (H5 F (Qf (R*m) fs) a k3 row n) F [] 0=_ from A6v h hfs ha hi hrow rfl F 0 [] (by omega) (by omega) (by simp) rfl];exact ih (i+1) (by omega) (by omega)
  ·rw [Ao (dF (by omega)),show i=m by omega,A2l];unfold Nd;rw [ckb (by omega)]
theorem A6t (h:Swp s R m) (hfs:fs.length≤32) {F:Nat} (hF:2000≤F) :
  ∀(n a:Nat),R+1≤n+a→a≤R→H4 F s (Qf (R*m) fs) n (jst R m (fun k=>jv k fs 0 []) a 0) a=some (jst R m (fun k=>jv k fs 0 []) R 0,0):=by
 have hm:=h.m1;have hR:=h.R4;intro n
 induction n with
 | zero=>intro a h1 h2;omega
 | succ n ih =>
  intro a h1 h2;show Le F s (Qf (R*m) fs) _ _ a=_;unfold Le;rw [h.hR]
  by_cases ha:a<R
  ·have hl:a<s.Rays.length:=by rw [h.hR];exact ha
   rw [Bf (dT (by omega)),D9 a _ rfl (List.getElem?_eq_getElem hl),show H5 F (Qf (R*m) fs) a (H4 F s (Qf (R*m) fs) n) s.Rays[a] F (jst R m (fun k=>jv k fs 0 []) a 0) 0=_ from A6u h hfs hF ha (h.rows _ (List.getElem_mem hl)) F 0 (by omega) (by omega)];exact ih (a+1) (by omega) (by omega)
  ·rw [Ao (dF (by omega)),show a=R by omega];rfl
theorem A2m (R m:Nat) (g:Int→sift_Verdict):List.replicate R ([]:List sift_Verdict)=jst R m g 0 0:=by
 apply List.ext_getElem?;intro b
 by_cases hb:b<R
 ·rw [Vn hb,List.getElem?_replicate_of_lt hb,if_neg (by omega),ite_self];rfl
 ·rw [List.getElem?_eq_none (by simp;omega),List.getElem?_eq_none (by rw [U5];omega)]
def Mr (s:api_Sweep) (L:List (ByteArray×T)):List (Int→Int):=L.map fun p k=>(p.2.sem s k).1
def Pd (s:api_Sweep) (R m:Nat) (L:List (ByteArray×T)):List (List sift_Verdict) :=
 (List.range R).map fun b=>(List.range m).map fun j=>jv ((b*m+j:Nat):Int) (Mr s L) 0 []
theorem A2k (R m:Nat) (g:Int→sift_Verdict):jst R m g R 0=(List.range R).map fun b=>(List.range m).map fun j=>g ((b*m+j:Nat):Int):=by
 unfold jst;apply List.map_congr_left;intro b hb;rw [if_pos (List.mem_range.1 hb)]
theorem Vz {L:List (ByteArray×T)} (h:Swp s R m) (hL:GoodR L) {F:Nat} (hF:3000≤F) (hs:Ee F s=some 0):Kf F (rl L) s=some (Pd s R m L,0):=by
 have hm:=h.m1;have hR:=h.R4;have hN:=h.N1;have hlen:=hL.len;have k1:∀l1 l2,Lh F s l1 l2 (Qf (R*m) (Mr s L))=some (Pd s R m L,0):=by
  intro l1 l2;unfold Lh;rw [h.hR,show mkI 24 (R:Int) ([]:List sift_Verdict)=some (List.replicate R []) by unfold mkI;rw [if_pos (by simp only [Int.toNat_natCast];omega),Int.toNat_natCast],sbd,A2m R m (fun k=>jv k (Mr s L) 0 [])];rw [show H4 F s (Qf (R*m) (Mr s L)) F (jst R m (fun k=>jv k (Mr s L) 0 []) 0 0) 0=_ from A6t h (by simp [Mr];omega) (by omega) F 0 (by omega) (by omega),A2k];rfl
 have l10:∀(y:sift_scan),y.s=s→y.n=(R*m:Nat)→∀(n j:Nat) l1 l2,L.length+1≤n+j→j≤L.length→Inv s (R*m) ⟨y.s,y.n,l1,l2⟩→Kh F (rl L) s y n l1 l2 j (Qf (R*m) (Mr s (L.take j)))=some (Pd s R m L,0):=by
  intro y hy1 hy2 n
  induction n with
  | zero=>intro j l1 l2 h1 h2;omega
  | succ n ih =>
   intro j l1 l2 h1 h2 h3;show Kg F (rl L) s y _ l1 l2 j _=_;unfold Kg;rw [Q6]
   by_cases hj:j<L.length
   ·have hp:=List.getElem?_eq_getElem hj;have hmm:=List.getElem_mem hj;have htk:L.take (j+1)=L.take j++[L[j]]:=by rw [List.take_add_one,hp];rfl
    generalize L[j]=p at hp hmm htk;have hsz:=Nat.le_trans (Xw hmm) hL.size;obtain ⟨d',q1,q2⟩:=(A4g h p.2 F ⟨y.s,y.n,l1,l2⟩ (by omega) (by omega) h3).1 (hL.trees p hmm).1;rw [Bf (dT (by omega)),D9 j _ rfl (W7 hp),show E4 F ⟨y.s,y.n,l1,l2⟩ (rlN p).When=_ from q1,sbd];dsimp only;rw [show apd 24 (Qf (R*m) (Mr s (L.take j))) [tab (R*m) fun k=>(p.2.sem s k).1]=some (Qf (R*m) (Mr s (L.take (j+1)))) by
     unfold apd;rw [if_pos (by simp [Qf,Mr];omega),htk];simp [Qf,Mr],sbd,ckb (by omega)]
    refine ih (j+1) d'.tests d'.values (by omega) (by omega) ?_;have:=h3.eta q2;rw [this];exact q2
   ·rw [Ao (dF (by omega)),show j=L.length by omega,List.take_length];exact k1 _ _
 unfold Kf Mm;rw [Y3 hL (by omega),sbd,Ao (neF rfl),hs,sbd,Ao (neF rfl),h.hR,h.hm,ckb (by rw [←Int.natCast_mul];omega),sbd];exact l10 _ rfl (Int.natCast_mul ..).symm F 0 [] [] (by omega) (by omega) ⟨rfl,(Int.natCast_mul ..).symm,(fun t l _ hl=>by cases hl),(fun t l _ hl=>by cases hl)⟩
end
end Go.Proofs.YtkjnafecmjakcaaGreatDoor
namespace Go.Proofs.YtkjnafecmjakcaaGreatDoor
open Go Go.RowKit Go.Eng
set_option maxRecDepth 10000
set_option linter.unusedVariables false
set_option linter.unusedSimpArgs false
def byts (l:List Int):Prop:=∀x∈l,0≤x∧x<256
def T.noRay:T→Prop
 | .leaf op _=>op≠22
 | .un _ _ _ a=>a.noRay
 | .bin _ a b=>a.noRay∧b.noRay
theorem Q1 {p:List Int} (hp:byts p) (F:Nat) {n:Int} (hn:1≤n):∃x p',Bs F p n=some (x,p')∧0≤x∧x<n∧byts p':=by
 unfold Bs
 cases p with
 | nil=>exact ⟨0,[],rfl,by omega,by omega,hp⟩
 | cons a l =>
  have ha:=hp a (by simp);refine ⟨a%n,l,?_,Int.emod_nonneg _ (by omega),Int.emod_lt_of_pos _ (by omega),fun x hx=>hp x (by simp [hx])⟩;rw [Ao (eqF (by simp;omega)),Wh,ckb (by omega),Ro ha.1 hn];unfold Ma;rw [if_pos (by simp only [List.length_cons];omega)];simp
theorem Q4 (n:sift_Node):sift_Node.mk n.Op n.Value_ n.Rays n.Gates n.Args=n:=by cases n;rfl
structure Mean (k ray:Bool) (d:Nat) (t:T):Prop where
 ok:okT k t
 size:t.size+1≤2 ^ d
 depth:t.depth≤d
 one:d=1→t.op<26
 ray:ray=false→t.noRay
theorem A2z {d:Nat} (h:1≤d):2≤2 ^ d:=Nat.pow_le_pow_right (n:=2) (i:=1) (by omega) h
theorem A4b (ray:Bool):∀(d F:Nat) (p:List Int),byts p→d+1≤F→d≤100 →
  (2≤d→∃t p',Bj F p d ray=some (t.node,p')∧Mean true ray d t∧byts p') ∧
  (1≤d→∃t p',Cc F p d ray=some (t.node,p')∧Mean false ray d t∧byts p'):=by
 intro d
 induction d using Nat.strongRecOn with
 | _ d ih =>
  intro F p hp hF hd;obtain ⟨F,rfl⟩:∃G,F=G+1:=⟨F-1,by omega⟩;constructor
  ·intro h2;obtain ⟨e,rfl⟩:∃e,d=e+1:=⟨d-1,by omega⟩;have hpw:2 ^ (e+1)=2 ^ e+2 ^ e:=by rw [Nat.pow_succ];omega
   have hp2:=A2z (d:=e) (by omega);have k1:∀(l:List Int) (x:Int),byts l→1≤x∧x≤13→(e+1<3→8≤x)→∃t p',Bz F (Bj F) (Cc F) (e+1:Nat) ray l x=some (t.node,p')∧Mean true ray (e+1) t∧byts p':=by
    intro l x hl hx hx3;unfold Bz;have hdm:((e+1:Nat):Int)-1=(e:Int):=by omega
    rw [hdm,ckb (by omega),ckb (by omega),ckb (by omega)]
    by_cases c1:x≤2
    ·rw [Bf (dT c1)];exact ⟨.leaf x 0,l,rfl,⟨by show (x=1∨x=2)∧(0:Int)=0;omega,by simp only [T.size];omega,by simp only [T.depth];omega,by omega,fun _=>by simp only [T.noRay];omega⟩,hl⟩
    rw [Ao (dF c1)]
    by_cases c2:x=3
    ·obtain ⟨t,p',q1,q2,q3⟩:=(ih e (by omega) F l hl (by omega) (by omega)).1 (by omega);rw [Bf (eqT c2),q1,sbd];exact ⟨.un x 0 0 t,p',by dsimp only;rw [Q4];rfl,⟨by simp only [okT];exact ⟨.inl ⟨c2,trivial,trivial⟩,q2.ok⟩,by have:=q2.size;simp only [T.size];omega,by have:=q2.depth;simp only [T.depth];omega,by omega,fun hr=>q2.ray hr⟩,q3⟩
    rw [Ao (eqF c2)]
    by_cases c3:x≤5
    ·obtain ⟨t,p',q1,q2,q3⟩:=(ih e (by omega) F l hl (by omega) (by omega)).1 (by omega);obtain ⟨t2,p2,r1,r2,r3⟩:=(ih e (by omega) F p' q3 (by omega) (by omega)).1 (by omega);rw [Bf (dT c3),q1,sbd,ckb (by omega)];dsimp only;rw [r1,sbd];exact ⟨.bin x t t2,p2,by dsimp only;rw [Q4,Q4];rfl,⟨by simp only [okT];exact .inl ⟨by omega,q2.ok,r2.ok⟩,by have:=q2.size;have:=r2.size;simp only [T.size];omega,by have:=q2.depth;have:=r2.depth;simp only [T.depth];omega,by omega,fun hr=>⟨q2.ray hr,r2.ray hr⟩⟩,r3⟩
    rw [Ao (dF c3)]
    by_cases c4:x≤7
    ·obtain ⟨a,pa,a1,a2,a3,a4⟩:=Q1 hl F (n:=3) (by omega);obtain ⟨b,pb,b1,b2,b3,b4⟩:=Q1 a4 F (n:=3) (by omega);obtain ⟨t,p',q1,q2,q3⟩:=(ih e (by omega) F pb b4 (by omega) (by omega)).1 (by omega);rw [Bf (dT c4),a1,sbd];dsimp only;rw [b1,sbd,ckb (by omega)];dsimp only;rw [q1,sbd];exact ⟨.un x a b t,p',by dsimp only;rw [Q4];rfl,⟨by simp only [okT];exact ⟨.inr ⟨by omega,by omega,by omega,by omega,by omega⟩,q2.ok⟩,by have:=q2.size;simp only [T.size];omega,by have:=q2.depth;simp only [T.depth];omega,by omega,fun hr=>q2.ray hr⟩,q3⟩
    rw [Ao (dF c4)];obtain ⟨t,p',q1,q2,q3⟩:=(ih e (by omega) F l hl (by omega) (by omega)).2 (by omega);obtain ⟨t2,p2,r1,r2,r3⟩:=(ih e (by omega) F p' q3 (by omega) (by omega)).2 (by omega);rw [q1,sbd,ckb (by omega)];dsimp only;rw [r1,sbd];exact ⟨.bin x t t2,p2,by dsimp only;rw [Q4,Q4];rfl,⟨by simp only [okT];exact .inr ⟨by omega,by omega,q2.ok,r2.ok⟩,by have:=q2.size;have:=r2.size;simp only [T.size];omega,by have:=q2.depth;have:=r2.depth;simp only [T.depth];omega,by omega,fun hr=>⟨q2.ray hr,r2.ray hr⟩⟩,r3⟩
   show ∃t p',D3 F (Bj F) (Cc F) p (e+1:Nat) ray=_∧_;unfold D3;obtain ⟨a,pa,a1,a2,a3,a4⟩:=Q1 hp F (n:=13) (by omega);rw [a1,sbd,ckb (by omega)];dsimp only
   by_cases c:((e+1:Nat):Int)<3∧1+a<8
   ·obtain ⟨b,pb,b1,b2,b3,b4⟩:=Q1 a4 F (n:=6) (by omega);rw [Bf (by rw [dT c.1,dT c.2];rfl),b1,sbd,ckb (by omega)];exact k1 pb _ b4 (by omega) (by omega)
   ·rw [Ao (by rw [←Bool.not_eq_true];intro hc;exact c (A6i.1 hc))];exact k1 pa _ a4 (by omega) (by omega)
  ·intro h1;obtain ⟨e,rfl⟩:∃e,d=e+1:=⟨d-1,by omega⟩;have hpw:2 ^ (e+1)=2 ^ e+2 ^ e:=by rw [Nat.pow_succ];omega
   have hpos:1≤2 ^ e:=Nat.one_le_two_pow;have hdm:((e+1:Nat):Int)-1=(e:Int):=by omega
   show ∃t p',F8 F (Bj F) (Cc F) p (e+1:Nat) ray=_∧_;have k1:∀(y:Int×List Int) (x:Int),byts y.2→14≤x∧x≤27→(e+1<2→x<25)→(e+1<4→x≠25)→(ray=false→x≠22)→∃t p',Bu F (Bj F) (Cc F) (e+1:Nat) ray y x=some (t.node,p')∧Mean false ray (e+1) t∧byts p':=by
    intro y x hl hx hx2 hx4 hxr;unfold Bu
    by_cases c1:x=14
    ·obtain ⟨b,pb,b1,b2,b3,b4⟩:=Q1 hl F (n:=256) (by omega);rw [Bf (eqT c1),b1,sbd];exact ⟨.leaf x b,pb,rfl,⟨by simp only [okT];omega,by simp only [T.size];omega,by simp only [T.depth];omega,fun _=>by simp only [T.op];omega,fun _=>by simp only [T.noRay];omega⟩,b4⟩
    rw [Ao (eqF c1)]
    by_cases c2:x=25
    ·obtain ⟨a,pa,a1,a2,a3,a4⟩:=Q1 hl F (n:=3) (by omega);obtain ⟨b,pb,b1,b2,b3,b4⟩:=Q1 a4 F (n:=3) (by omega);obtain ⟨t,p',q1,q2,q3⟩:=(ih e (by omega) F pb b4 (by omega) (by omega)).1 (by omega);rw [Bf (eqT c2),a1,sbd];dsimp only;rw [b1,sbd,hdm,ckb (by omega)];dsimp only;rw [q1,sbd];exact ⟨.un x a b t,p',by dsimp only;rw [Q4];rfl,⟨by simp only [okT];exact ⟨⟨c2,by omega,by omega,by omega,by omega⟩,q2.ok⟩,by have:=q2.size;simp only [T.size];omega,by have:=q2.depth;simp only [T.depth];omega,fun _=>by simp only [T.op];omega,fun hr=>q2.ray hr⟩,q3⟩
    rw [Ao (eqF c2)];have k2:∀c:Bool,(c=true↔x=26∨x=27)→∃t p',Cq (Cc F) (e+1:Nat) ray y x c=some (t.node,p')∧Mean false ray (e+1) t∧byts p':=by
     intro c hc;unfold Cq
     by_cases c3:x=26∨x=27
     ·have he:1≤e:=by omega
      have hp2:=A2z he;obtain ⟨t2,p2,r1,r2,r3⟩:=(ih 1 (by omega) F y.2 hl (by omega) (by omega)).2 (by omega);obtain ⟨t,p',q1,q2,q3⟩:=(ih e (by omega) F p2 r3 (by omega) (by omega)).2 he;rw [Bf (hc.2 c3),show Cc F y.2 1 ray=_ from r1,sbd,hdm,ckb (by omega)];dsimp only;rw [q1,sbd];exact ⟨.bin x t t2,p',by dsimp only;rw [Q4,Q4];rfl,⟨by simp only [okT];exact ⟨c3,q2.ok,r2.ok,r2.one rfl⟩,by have:=q2.size;have:=r2.size;simp only [T.size];omega,by have:=q2.depth;have:=r2.depth;simp only [T.depth];omega,by omega,fun hr=>⟨q2.ray hr,r2.ray hr⟩⟩,q3⟩
     ·rw [Ao (by rw [←Bool.not_eq_true];intro h;exact c3 (hc.1 h))];exact ⟨.leaf x 0,y.2,rfl,⟨by show (x=14∧(0:Int)≤0∧(0:Int)≤1000000000)∨(15≤x∧x≤24∧(0:Int)=0);omega,by simp only [T.size];omega,by simp only [T.depth];omega,fun _=>by simp only [T.op];omega,fun hr=>hxr hr⟩,hl⟩
    by_cases c3:x=26
    ·rw [Bf (eqT c3)];exact k2 _ (by rw [beq_iff_eq];omega)
    ·rw [Ao (eqF c3)];exact k2 _ (by rw [beq_iff_eq];omega)
   unfold F8;obtain ⟨a,pa,a1,a2,a3,a4⟩:=Q1 hp F (n:=14) (by omega);rw [a1,sbd,ckb (by omega)];dsimp only;have key:∀c:Bool,(c=true→True)→(c=false→(e+1<2→14+a<25)∧(e+1<4→14+a≠25)∧(ray=false→14+a≠22))→∃t p',(bif c then Bu F (Bj F) (Cc F) (e+1:Nat) ray (a,pa) 14 else Bu F (Bj F) (Cc F) (e+1:Nat) ray (a,pa) (14+a))=some (t.node,p')∧Mean false ray (e+1) t∧byts p':=by
    intro c _ hc
    cases c
    ·obtain ⟨z1,z2,z3⟩:=hc rfl;exact k1 (a,pa) (14+a) a4 (by omega) z1 z2 z3
    ·exact k1 (a,pa) 14 a4 (by omega) (by omega) (by omega) (by omega)
   refine key _ (fun _=>trivial) fun hc=>?_;have o1:∀{x y:Bool},(bif x then true else y)=false→x=false∧y=false:=by intro x y;cases x<;>cases y<;>simp
   obtain ⟨h1,h2⟩:=o1 hc;obtain ⟨h3,h4⟩:=o1 h1;refine ⟨fun hx=>?_,fun hx=>?_,fun hx=>?_⟩
   ·rw [Bf (dT (by omega))] at h4;have:=of_decide_eq_false h4;omega
   ·rw [Bf (dT (by omega))] at h2;intro e;rw [eqT e] at h2;cases h2
   ·subst hx;intro e;rw [eqT e] at h3;cases h3
end Go.Proofs.YtkjnafecmjakcaaGreatDoor
namespace Go.Proofs.YtkjnafecmjakcaaGreatDoor
open Go Go.RowKit Go.Eng
set_option maxRecDepth 10000
set_option linter.unusedVariables false
set_option linter.unusedSimpArgs false
def nms:List ByteArray:=[(⟨#[97]⟩:ByteArray),(⟨#[98,49]⟩:ByteArray),(⟨#[99,95]⟩:ByteArray),(⟨#[100,100,100,100,100,100,100,100,100,100,100,100]⟩:ByteArray)]
theorem A5w:[(⟨#[97]⟩:ByteArray),(⟨#[98,49]⟩:ByteArray),(⟨#[99,95]⟩:ByteArray),(⟨#[100,100,100,100,100,100,100,100,100,100,100,100]⟩:ByteArray)]=nms:=rfl
structure MeanR (ray:Bool) (L:List (ByteArray×T)):Prop where
 len:L.length≤4
 names:∀(i:Nat) p,L[i]? = some p→nms[i]? = some p.1
 trees:∀p∈L,Mean true ray 5 p.2
theorem A6w:∀p∈nms,∀F,30≤F→beam_Name F p=some true∧sift_word F p=some false:=by
 intro p hp F hF;obtain ⟨F,rfl⟩:∃G,F=G+30:=⟨F-30,by omega⟩;simp only [nms,List.mem_cons,List.not_mem_nil,or_false] at hp;rcases hp with rfl|rfl|rfl|rfl<;>exact ⟨rfl,rfl⟩
theorem A5x:∀(i j:Nat) (p q:ByteArray),nms[i]? = some p→nms[j]? = some q→i<j→p≠q:=by
 have key:∀i:Fin 4,∀j:Fin 4,i.val<j.val→nms[i.val]?≠nms[j.val]?:=by decide
 intro i j p q h1 h2 hij e;have a:=(List.getElem?_eq_some_iff.1 h1).1;have b:=(List.getElem?_eq_some_iff.1 h2).1;exact key ⟨i,a⟩ ⟨j,b⟩ hij (by show nms[i]? = nms[j]?;rw [h1,h2,e])
theorem MeanR.good {ray:Bool} {L:List (ByteArray×T)} (h:MeanR ray L):GoodR L:=by
 have hs:∀M:List (ByteArray×T),(∀p∈M,Mean true ray 5 p.2)→(M.map (·.2.size)).sum≤31*M.length:=by
  intro M
  induction M with
  | nil=>simp
  | cons p M ih =>
   intro hM;have h1:=(hM p (by simp)).size;have h2:=ih fun q hq=>hM q (by simp [hq]);rw [List.map_cons,List.sum_cons,List.length_cons];omega
 refine ⟨by have:=h.len;omega,?_,?_,?_,?_⟩
 ·have:=hs L h.trees;have:=h.len;omega
 ·intro p hp F hF;obtain ⟨i,hi,e⟩:=List.mem_iff_getElem.1 hp;have:=h.names i p (by rw [List.getElem?_eq_getElem hi,e]);exact A6w _ (List.mem_of_getElem? this) F hF
 ·intro i j p q h1 h2 hij;exact A5x i j _ _ (h.names i p h1) (h.names j q h2) hij
 ·intro p hp;have:=h.trees p hp;exact ⟨this.ok,by have:=this.depth;omega⟩
theorem A34 {p:List Int} (hp:byts p) {n:Int} (hn:0≤n∧n<256) (ray:Bool) {F:Nat} (hF:20≤F) :
  ∃L p',Gu F p n ray=some (rl L,p')∧MeanR ray L∧L.length=(n%5).toNat:=by
 have hn5:0≤n%5∧n%5<5:=⟨Int.emod_nonneg _ (by omega),Int.emod_lt_of_pos _ (by omega)⟩;have go:∀(k:Nat) (j:Nat) (l:List Int) (L:List (ByteArray×T)),byts l→MeanR ray L→L.length=j→(n%5).toNat+1≤k+j→j≤(n%5).toNat →
   ∃L' p',Er F ray (n%5) k l j (rl L)=some (rl L',p')∧MeanR ray L'∧L'.length=(n%5).toNat:=by
  intro k
  induction k with
  | zero=>intro j l L _ _ _ h1 h2;omega
  | succ k ih =>
   intro j l L hl hL hj h1 h2;show ∃L' p',Ep F ray (n%5) _ l j (rl L)=_∧_;unfold Ep;rw [A5w]
   by_cases c:(j:Int)<n%5
   ·have hj4:j<4:=by omega
    obtain ⟨nm,hnm⟩:∃nm,nms[j]? = some nm:=⟨nms[j]'(by simp [nms];omega),List.getElem?_eq_getElem (by simp [nms];omega)⟩;obtain ⟨t,p',q1,q2,q3⟩:=(A4b ray 5 F l hl (by omega) (by omega)).1 (by omega);rw [Bf (dT c),D9 j nm rfl hnm,show Bj F l 5 ray=_ from q1,sbd];dsimp only;rw [Q4,show apd 72 (rl L) [⟨nm,t.node⟩]=some (rl (L++[(nm,t)])) by
     unfold apd;rw [if_pos (by rw [Q6];simp;omega)];simp [rl,rlN],sbd,ckb (by omega)]
    refine ih (j+1) p' _ q3 ⟨by simp;omega,fun i q hq=>?_,fun q hq=>?_⟩ (by simp;omega) (by omega) (by omega)
    ·by_cases hi:i<L.length
     ·rw [List.getElem?_append_left hi] at hq;exact hL.names i q hq
     ·obtain ⟨h5,h6⟩:=List.getElem?_eq_some_iff.1 hq;have:i=j:=by simp at h5;omega
      subst this;rw [←hj,List.getElem?_append_right (by omega),Nat.sub_self] at hq
      cases hq;exact hnm
    ·rcases List.mem_append.1 hq with hq|hq
     ·exact hL.trees q hq
     ·rw [List.mem_singleton] at hq;subst hq;exact q2
   ·rw [Ao (dF c)];exact ⟨L,l,rfl,hL,by omega⟩
 unfold Gu;rw [ckb (by omega),Ro hn.1 (by omega)];exact go F 0 p [] hp ⟨by simp,fun i q hq=>by simp at hq,fun q hq=>by simp at hq⟩ rfl (by omega) (by omega)
def inS (x:api_Span) (lo hi:Int):Prop:=lo≤x.Lo∧x.Lo≤x.Hi∧x.Hi≤hi
def trS (x:api_Span):Prop:=-32768≤x.Lo∧x.Lo≤x.Hi∧x.Hi≤32767
def zS (x:api_Span):Prop:=x.Lo=0∧x.Hi=0
def okE (e:api_Echo):Prop :=
 (e.Kind=1∧inS e.Power 0 1073741824∧e.Power.Lo=0∧zS e.Steps.1∧zS e.Steps.2∧e.Spread=0∧zS e.Ratio∧zS e.Match∧zS e.Turn) ∨
 ((e.Kind=2∨e.Kind=3)∧inS e.Power 0 1073741824∧0<e.Power.Lo∧inS e.Ratio 0 1000000∧inS e.Match 0 1000∧0≤e.Spread∧e.Spread≤65535 ∧
  (e.Kind=2→zS e.Steps.1∧zS e.Steps.2∧zS e.Turn)∧(e.Kind=3→trS e.Steps.1∧trS e.Steps.2∧trS e.Turn))
theorem okE.bd {e:api_Echo} (h:okE e):bdE e:=by
 unfold okE inS trS zS at h;unfold bdE bdS;omega
theorem Tf {x:api_Span} {lo hi:Int} (h:inS x lo hi):Ak x lo hi=true:=by
 unfold Ak;rw [dT h.1,dT h.2.1,Bf rfl,Bf rfl,dT h.2.2]
theorem So {x lo hi:Int} (h:lo≤x∧x≤hi):Av x lo hi=true:=by
 unfold Av;rw [dT h.1,Bf rfl,dT h.2]
theorem A6h {x:api_Span} (h:zS x):(((x.Lo:Int)==0)&&(((x.Hi:Int)==0)&&true))=true:=by rw [h.1,h.2];rfl
theorem A4r {l:List api_Span} (hl:l.length≤10) (h:∀x∈l,trS x) {F:Nat}:∀(n j:Nat),l.length+1≤n+j→j≤l.length→G2 l n j=some true:=by
 intro n
 induction n with
 | zero=>intro j h1 h2;omega
 | succ n ih =>
  intro j h1 h2;show Hq l _ j=_;unfold Hq
  by_cases hj:j<l.length
  ·obtain ⟨t1,t3,t4⟩:=h _ (List.getElem_mem hj);rw [Bf (dT (by omega)),D9 j _ rfl (List.getElem?_eq_getElem hj),So ⟨t1,by omega⟩,gdT (g:=(!true)==false&&true) rfl,ckb (by omega),gdT (g:=(!true)==false&&true) rfl,ckb (by omega),So ⟨t3,by omega⟩,Ao (c:=bif !true then true else !true) rfl,ckb (by omega)];exact ih (j+1) (by omega) (by omega)
  ·rw [Ao (dF (by omega))];rfl
theorem A3t {e:api_Echo} (h:okE e) {F:Nat} (hF:10≤F):Gl F e=some 0:=by
 unfold Gl;rcases h with ⟨h1,h2,h3,h4,h5,h6,h7,h8,h9⟩|⟨h1,h2,h3,h4,h5,h6,h7,h8,h9⟩
 ·rw [Bf (eqT h1),Bf (Tf h2)];simp only [h1,h3,h4.1,h4.2,h5.1,h5.2,h6,h7.1,h7.2,h8.1,h8.2,h9.1,h9.2];rw [eqT (a:=e.Power.Hi) rfl];rfl
 ·rw [Ao (eqF (by omega))];unfold Gg
  by_cases c:e.Kind=2
  ·obtain ⟨z1,z2,z3⟩:=h8 c;rw [Bf (eqT c),eqT c,Bf rfl,Bf rfl,Tf h2,dT h3,Tf h4,Tf h5,So ⟨h6,h7⟩,A6h z1,A6h z2,A6h z3];rfl
  ·obtain ⟨z1,z2,z3⟩:=h9 (by omega);rw [Ao (eqF c),eqT (show e.Kind=3 by omega),Bf rfl,Ao (eqF c),Tf h2,dT h3,Tf h4,Tf h5,So ⟨h6,h7⟩];unfold Nc;rw [Bf rfl,show G2 [⟨e.Steps.1.Lo,e.Steps.1.Hi⟩,⟨e.Steps.2.Lo,e.Steps.2.Hi⟩,e.Turn] F 0=some true from A4r (F:=0) (by simp) (by
    intro x hx;simp only [List.mem_cons,List.not_mem_nil,or_false] at hx;rcases hx with rfl|rfl|rfl
    ·exact z1
    ·exact z2
    ·exact z3) F 0 (by simp;omega) (by simp)]
   rfl
structure Okw (s:api_Sweep) (r m:Nat):Prop where
 site:s.Site=⟨⟨#[115]⟩,0,0,0,r,m,500,0⟩
 r1:1≤r∧r≤3
 m1:1≤m∧m≤4
 time:s.Time=0
 tilt:0≤s.Tilt∧s.Tilt≤255
 len:s.Rays.length=4*r
 rows:∀l∈s.Rays,l.length=m∧∀e∈l,okE e
theorem Okw.swp {s:api_Sweep} {r m:Nat} (h:Okw s r m):Swp s (4*r) m:=by
 have h1:=h.r1;have h2:=h.m1;have h3:=h.tilt;refine ⟨h.len,by rw [h.site],by omega,by omega,?_,fun l hl=>(h.rows l hl).1,fun l hl e he=>((h.rows l hl).2 e he).bd,by omega⟩;have:=Nat.mul_le_mul (show 4*r≤12 by omega) h2.2;omega
theorem Okw.check {s:api_Sweep} {r m:Nat} (h:Okw s r m) {F:Nat} (hF:50≤F):Ee F s=some 0:=by
 have h1:=h.r1;have h2:=h.m1;have h3:=h.tilt;have l5:∀(row:List api_Echo),row∈s.Rays→∀(x:Int) (k:Int→Option Int) (n j:Nat),m+1≤n+j→j≤m→0≤x∧x≤100→E2 F x k row n j=k (x+1):=by
  intro row hrow x k n;obtain ⟨e1,e2⟩:=h.rows row hrow
  induction n with
  | zero=>intro j h1 h2;omega
  | succ n ih =>
   intro j h1 h2 hx;show Fc F x k row _ j=_;unfold Fc
   by_cases hj:j<row.length
   ·rw [Bf (dT (by omega)),D9 j _ rfl (List.getElem?_eq_getElem hj),show Gl F _=some 0 from A3t (e2 _ (List.getElem_mem hj)) (by omega),sbd,Ao (neF rfl),ckb (by omega)];exact ih (j+1) (by omega) (by omega) hx
   ·rw [Ao (dF (by omega))];unfold Hb;rw [ckb (by omega)]
 have l3:∀(n j:Nat),s.Rays.length+1≤n+j→j≤s.Rays.length→Ff F s n j=some 0:=by
  intro n
  induction n with
  | zero=>intro j h1 h2;omega
  | succ n ih =>
   intro j h4 h5;have hl:=h.len;show Fb F s _ j=_;unfold Fb
   by_cases hj:j<s.Rays.length
   ·rw [Bf (dT (by omega)),D9 j _ rfl (List.getElem?_eq_getElem hj),show E2 F j _ _ F 0=_ from l5 _ (List.getElem_mem hj) j _ F 0 (by omega) (by omega) (by omega)];exact ih (j+1) (by omega) (by omega)
   ·rw [Ao (dF (by omega))];rfl
 have l6:∀(n j:Nat),s.Rays.length+1≤n+j→j≤s.Rays.length→Fg F s n j=some 0:=by
  intro n
  induction n with
  | zero=>intro j h1 h2;omega
  | succ n ih =>
   intro j h4 h5;have hl:=h.len;show Fe F s _ j=_;unfold Fe
   by_cases hj:j<s.Rays.length
   ·rw [Bf (dT (by omega)),D9 j _ rfl (List.getElem?_eq_getElem hj),Ao (neF (by rw [(h.rows _ (List.getElem_mem hj)).1,h.site])),ckb (by omega)];exact ih (j+1) (by omega) (by omega)
   ·rw [Ao (dF (by omega))];exact l3 F 0 (by omega) (by omega)
 have hsite:K5 F s.Site=some 0:=by
  have e1:Ax (r:Int) 1 90=true:=So ⟨by omega,by omega⟩;have e2:Ax (m:Int) 1 200=true:=So ⟨by omega,by omega⟩;rw [h.site];unfold K5;rw [show beam_Name F (⟨#[115]⟩:ByteArray)=some true from rfl,sbd,Ao (c:=!true) rfl];unfold Eu;dsimp only;rw [e1,e2];rfl
 unfold Ee;rw [hsite,sbd,Ao (neF rfl),So (x:=s.Tilt) ⟨h3.1,by omega⟩,So (x:=s.Time) (by rw [h.time];omega),Ao (c:=bif !true then true else !true) rfl,h.site];dsimp only;rw [ckb (by omega),Ao (neF (by rw [h.len];omega))];exact l6 F 0 (by have:=h.len;omega) (by omega)
end Go.Proofs.YtkjnafecmjakcaaGreatDoor
namespace Go.Proofs.YtkjnafecmjakcaaGreatDoor
open Go Go.RowKit Go.Eng
set_option maxRecDepth 10000
set_option linter.unusedVariables false
set_option linter.unusedSimpArgs false
theorem Ql {l:List Int} (hl:byts l) (F:Nat) {i n:Int} (hi:0≤i) (hn:1≤n):∃x,Fh F l i n=some x∧0≤x∧x<n:=by
 unfold Fh
 by_cases h:l.length=0
 ·exact ⟨0,by rw [Bf (eqT (by omega))],by omega,by omega⟩
 ·have h1:0≤i%(l.length:Int)∧i%(l.length:Int)<(l.length:Int):=⟨Int.emod_nonneg _ (by omega),Int.emod_lt_of_pos _ (by omega)⟩;have h2:(i%(l.length:Int)).toNat<l.length:=by omega
  have hb:=hl _ (List.getElem_mem h2);refine ⟨l[(i%(l.length:Int)).toNat]%n,?_,Int.emod_nonneg _ (by omega),Int.emod_lt_of_pos _ (by omega)⟩;rw [Ao (eqF (by omega)),Ro hi (by omega),D9 (i%(l.length:Int)).toNat _ (by omega) (List.getElem?_eq_getElem h2),ckb (by omega),Ro hb.1 hn]
structure AirIn (a:law04_Air):Prop where
 rose:0≤a.Rose∧a.Rose<256
 gates:0≤a.Gates∧a.Gates<256
 tilt:0≤a.Tilt∧a.Tilt<256
 kinds:byts a.Kinds
 low:byts a.Low
 wide:byts a.Wide
theorem Uf {a:law04_Air} (h:AirIn a) (F:Nat) {i k:Int} (hi:0≤i∧i≤10) (hk:0≤k∧k≤1000):∃x,C9 F i a k=some x∧0≤x.Lo∧x.Lo≤x.Hi∧x.Hi≤240:=by
 obtain ⟨x,h1,h2,h3⟩:=Ql h.low F (i:=k+i) (n:=200) (by omega) (by omega);obtain ⟨y,h4,h5,h6⟩:=Ql h.wide F (i:=k+2*i) (n:=40) (by omega) (by omega);refine ⟨⟨x,x+y⟩,?_,h2,by dsimp only;omega,by dsimp only;omega⟩;unfold C9 Af;rw [ckb (by omega),h1,sbd,ckb (by omega),ckb (by omega),h4,sbd,ckb (by omega)]
theorem A1x {a:law04_Air} (h:AirIn a) {F:Nat} (hF:50≤F):∃s,Gk F a=some s∧Okw s (1+a.Rose%3).toNat (1+a.Gates%4).toNat:=by
 have hr:0≤a.Rose%3∧a.Rose%3<3:=⟨Int.emod_nonneg _ (by omega),Int.emod_lt_of_pos _ (by omega)⟩;have hg:0≤a.Gates%4∧a.Gates%4<4:=⟨Int.emod_nonneg _ (by omega),Int.emod_lt_of_pos _ (by omega)⟩;have h1:=h.rose;have h2:=h.gates;have h3:=h.tilt;generalize hm:(1+a.Gates%4).toNat=m;have hm2:1+a.Gates%4=(m:Int):=by omega
 generalize hrr:(1+a.Rose%3).toNat=r;have hr2:1+a.Rose%3=(r:Int):=by omega
 have l5:∀(st:List (List api_Echo)) (b:Int) (k2:List (List api_Echo)→Int→Int→Option api_Sweep),st.length≤20→0≤b∧b≤20→∀(n j:Nat) (k:Int) (l:List api_Echo),m+1≤n+j→j≤m→0≤k∧k+(m-j)≤200→l.length=j→(∀e∈l,okE e) →
   ∃row,row.length=m∧(∀e∈row,okE e)∧Cn F a m st b k2 n k j l=k2 (st++[row]) (k+(m-j)) (b+1):=by
  intro st b k2 hst hb n
  induction n with
  | zero=>intro j k l h1 h2;omega
  | succ n ih =>
   intro j k l h4 h5 h6 h7 h8;show ∃row,_∧_∧G5 F a m st b k2 (Cn F a m st b k2 n) k j l=_;unfold G5
   by_cases c:j<m
   ·have k6:∀kk p1 p2 p3 p4 p5 p6 p7 p8 p9 p10 p11,okE ⟨kk,⟨p1,p6⟩,(⟨p7,p8⟩,⟨0,0⟩),p9,⟨p10,p11⟩,⟨p2,p3⟩,⟨p4,p5⟩⟩→∃row,row.length=m∧(∀e∈row,okE e)∧D2 k j l (Cn F a m st b k2 n) kk p1 p2 p3 p4 p5 p6 p7 p8 p9 p10 p11=k2 (st++[row]) (k+(m-j)) (b+1):=by
     intro kk p1 p2 p3 p4 p5 p6 p7 p8 p9 p10 p11 hok;unfold D2;rw [show apd 112 l [(⟨kk,⟨p1,p6⟩,(⟨p7,p8⟩,⟨0,0⟩),p9,⟨p10,p11⟩,⟨p2,p3⟩,⟨p4,p5⟩⟩:api_Echo)]=some _ by unfold apd;rw [if_pos (by simp;omega)],sbd,ckb (by omega),ckb (by omega)];obtain ⟨row,q1,q2,q3⟩:=ih (j+1) (k+1) (l++[(⟨kk,⟨p1,p6⟩,(⟨p7,p8⟩,⟨0,0⟩),p9,⟨p10,p11⟩,⟨p2,p3⟩,⟨p4,p5⟩⟩:api_Echo)]) (by omega) (by omega) (by omega) (by simp;omega) (by
      intro e he;rcases List.mem_append.1 he with he|he
      ·exact h8 e he
      ·rw [List.mem_singleton] at he;subst he;exact hok)
     exact ⟨row,q1,q2,by rw [show k+(m-j)=k+1+(m-((j+1:Nat):Int)) by omega];exact q3⟩
    obtain ⟨x,x1,x2,x3⟩:=Ql h.kinds F (i:=k) (n:=3) (by omega) (by omega);rw [Bf (dT (by omega)),x1,sbd,ckb (by omega)]
    by_cases c1:1+x=1
    ·obtain ⟨w,w1,w2,w3⟩:=Ql h.wide F (i:=k) (n:=40) (by omega) (by omega);rw [Bf (eqT c1),w1,sbd];refine k6 _ _ _ _ _ _ _ _ _ _ _ _ (.inl ?_);dsimp only [inS,zS,Af];omega
    ·obtain ⟨a0,b0,c0,d0,e0⟩:=Uf h F (i:=0) (k:=k) (by omega) (by omega);obtain ⟨a1,b1,c1',d1,e1⟩:=Uf h F (i:=1) (k:=k) (by omega) (by omega);obtain ⟨a2,b2,c2,d2,e2⟩:=Uf h F (i:=2) (k:=k) (by omega) (by omega);obtain ⟨a4,b4,c4,d4,e4⟩:=Uf h F (i:=4) (k:=k) (by omega) (by omega);obtain ⟨a5,b5,c5,d5,e5⟩:=Uf h F (i:=5) (k:=k) (by omega) (by omega);obtain ⟨w,w1,w2,w3⟩:=Ql h.low F (i:=k+3) (n:=200) (by omega) (by omega);rw [Ao (eqF c1),ckb (by omega),b0,sbd,b1,sbd,b2,sbd,w1,sbd,ckb (by omega),ckb (by omega)]
     by_cases c3:1+x=3
     ·rw [Bf (eqT c3),b4,sbd,b5,sbd];refine k6 _ _ _ _ _ _ _ _ _ _ _ _ (.inr ?_);dsimp only [inS,zS,trS];omega
     ·rw [Ao (eqF c3)];refine k6 _ _ _ _ _ _ _ _ _ _ _ _ (.inr ?_);dsimp only [inS,zS,trS];omega
   ·rw [Ao (dF (by omega))];unfold J1 J0;rw [show apd 24 st [l]=some (st++[l]) by unfold apd;rw [if_pos (by simp;omega)],sbd,ckb (by omega)];exact ⟨l,by omega,h8,by rw [show k+(m-j)=k by omega]⟩
 have l2:∀(n j:Nat) (k:Int) (st:List (List api_Echo)),4*r+1≤n+j→j≤4*r→k=j*m→st.length=j→(∀l∈st,l.length=m∧∀e∈l,okE e) →
   ∃s,Cm F a r m a.Tilt (4*r:Nat) n st k j=some s∧Okw s r m:=by
  intro n
  induction n with
  | zero=>intro j k st h1 h2;omega
  | succ n ih =>
   intro j k st h4 h5 h6 h7 h8;show ∃s,G4 F a r m a.Tilt (4*r:Nat) (Cm F a r m a.Tilt (4*r:Nat) n) st k j=some s∧_;unfold G4
   by_cases c:j<4*r
   ·have hk:k+m≤48:=by
     have:=Nat.mul_le_mul (show j+1≤12 by omega) (show m≤4 by omega);rw [h6,←Int.natCast_mul];rw [Nat.add_mul] at this;omega
    have hk0:0≤k:=by rw [h6,←Int.natCast_mul];omega
    obtain ⟨row,q1,q2,q3⟩:=l5 st j (Cm F a r m a.Tilt (4*r:Nat) n) (by omega) (by omega) F 0 k [] (by omega) (by omega) (by omega) rfl (by simp);rw [Bf (dT (by omega)),show Cn F a m st j (Cm F a r m a.Tilt (4*r:Nat) n) F k 0 []=_ from q3];refine ih (j+1) _ (st++[row]) (by omega) (by omega) ?_ (by simp;omega) (fun l hl=>?_)
    ·rw [h6,Int.natCast_add,Int.add_mul];omega
    ·rcases List.mem_append.1 hl with hl|hl
     ·exact h8 l hl
     ·rw [List.mem_singleton] at hl;subst hl;exact ⟨q1,q2⟩
   ·rw [Ao (dF (by omega))];exact ⟨_,rfl,⟨rfl,by omega,by omega,rfl,by dsimp only;omega,by dsimp only;omega,h8⟩⟩
 unfold Gk;rw [ckb (by omega),Ro h1.1 (by omega),ckb (by omega),ckb (by omega),Ro h2.1 (by omega),ckb (by omega),ckb (by omega),ckb (by omega),hm2,hr2];rw [show 4*(r:Int)=((4*r:Nat):Int) by omega];exact l2 F 0 0 [] (by omega) (by omega) (by simp) rfl (by simp)
end Go.Proofs.YtkjnafecmjakcaaGreatDoor
namespace Go.Proofs.YtkjnafecmjakcaaGreatDoor
open Go Go.RowKit Go.Eng
set_option maxRecDepth 10000
set_option linter.unusedVariables false
set_option linter.unusedSimpArgs false
end Go.Proofs.YtkjnafecmjakcaaGreatDoor
namespace Go.Proofs.YtkjnafecmjakcaaGreatDoor
open Go Go.RowKit Go.Eng
set_option maxRecDepth 10000
set_option linter.unusedVariables false
set_option linter.unusedSimpArgs false
theorem Xl {x y:Bool} (h1:x=false) (h2:y=false):(bif x then true else y)=false:=by rw [h1,h2];rfl
section
variable {f:sift_Node→Option sift_Node} {p u v u' v':sift_Node} {n:Nat}
end
section
variable {f:sift_Node→Option Bool} {p u v:sift_Node} {n:Nat}
end
section
variable {f:sift_Node→sift_Node→Option Bool} {p u v:sift_Node} {n:Nat}
end
theorem W4 (l:List Int) (hl:l.length≤1000) {F:Nat} (hF:1001≤F):H0 F l l=some true:=by
 have go:∀(n j:Nat),l.length+1≤n+j→j≤l.length→Hk l l n j=some true:=by
  intro n
  induction n with
  | zero=>intro j h1 h2;omega
  | succ n ih =>
   intro j h1 h2;show Hj l l _ j=_;unfold Hj
   by_cases hj:j<l.length
   ·rw [Bf (dT (by omega)),D9 j _ rfl (List.getElem?_eq_getElem hj),D9 j _ rfl (List.getElem?_eq_getElem hj),Ao (neF rfl),ckb (by omega)];exact ih (j+1) (by omega) (by omega)
   ·rw [Ao (dF (by omega))];rfl
 unfold H0;rw [Ao (neF rfl)];exact go F 0 (by omega) (by omega)
theorem Yz (v:List (List sift_Verdict)) (h1:v.length≤1000) (h2:∀l∈v,l.length≤1000∧∀x∈l,x.Doubts.length≤1000) {F:Nat} (hF:1001≤F):Hl F v v=some true:=by
 have g4:∀(a:Nat) (row:List sift_Verdict),v[a]? = some row→∀(k:Int→Option Bool) (n j:Nat),row.length+1≤n+j→j≤row.length→Ey F v v a k row n j=k ((a:Int)+1):=by
  intro a row hr k n;have ha:=(List.getElem?_eq_some_iff.1 hr).1;obtain ⟨r1,r2⟩:=h2 row (List.mem_of_getElem? hr)
  induction n with
  | zero=>intro j h1 h2;omega
  | succ n ih =>
   intro j h3 h4;show Gr F v v a k row _ j=_;unfold Gr
   by_cases hj:j<row.length
   ·have hx:=List.getElem?_eq_getElem hj;rw [Bf (dT (by omega)),D9 a _ rfl hr,D9 j _ rfl hx,D9 a _ rfl hr,D9 j _ rfl hx,Ao (neF rfl),D9 a _ rfl hr,D9 j _ rfl hx,D9 a _ rfl hr,D9 j _ rfl hx,W4 _ (r2 _ (List.getElem_mem hj)) hF,sbd,Ao (Xl (y:=!true) (neF rfl) rfl),ckb (by omega)];exact ih (j+1) (by omega) (by omega)
   ·rw [Ao (dF (by omega))];unfold Jz;rw [ckb (by omega)]
 have g2:∀(n j:Nat),v.length+1≤n+j→j≤v.length→Gs F v v n j=some true:=by
  intro n
  induction n with
  | zero=>intro j h1 h2;omega
  | succ n ih =>
   intro j h3 h4;show Gq F v v _ j=_;unfold Gq
   by_cases hj:j<v.length
   ·have hx:=List.getElem?_eq_getElem hj;rw [Bf (dT (by omega)),D9 j _ rfl hx,D9 j _ rfl hx,Ao (neF rfl),D9 j _ rfl hx,show Ey F v v j _ v[j] F 0=_ from g4 j _ hx _ F 0 (by have:=(h2 _ (List.getElem_mem hj)).1;omega) (by omega)];exact ih (j+1) (by omega) (by omega)
   ·rw [Ao (dF (by omega))];rfl
 unfold Hl;rw [Ao (neF rfl)];exact g2 F 0 (by omega) (by omega)
end Go.Proofs.YtkjnafecmjakcaaGreatDoor
namespace Go.Proofs.YtkjnafecmjakcaaGreatDoor
open Go Go.RowKit Go.Eng
set_option maxRecDepth 10000
set_option linter.unusedVariables false
set_option linter.unusedSimpArgs false
theorem A01:M5 4000=some true:=by kernel_rfl
theorem A2n (k:Int):∀(fs:List (Int→Int)) (j:Int) (l:List Int),(jv k fs j l).Doubts.length≤l.length+fs.length:=by
 intro fs
 induction fs with
 | nil=>intro j l;simp [jv]
 | cons f fs ih =>
  intro j l;rw [jv,List.length_cons]
  split
  ·dsimp only;omega
  ·split
   ·have:=ih (j+1) (l++[j]);rw [List.length_append,List.length_singleton] at this;omega
   ·have:=ih (j+1) l;omega
theorem Vy (s:api_Sweep) {R m:Nat} {L:List (ByteArray×T)} (h1:R≤1000) (h2:m≤1000) (h3:L.length≤1000):(Pd s R m L).length≤1000∧∀l∈Pd s R m L,l.length≤1000∧∀x∈l,x.Doubts.length≤1000:=by
 unfold Pd;refine ⟨by simp;omega,fun l hl=>?_⟩;obtain ⟨b,_,rfl⟩:=List.mem_map.1 hl;refine ⟨by simp;omega,fun x hx=>?_⟩;obtain ⟨j,_,rfl⟩:=List.mem_map.1 hx;have:=A2n ((b*m+j:Nat):Int) (Mr s L) 0 [];simp [Mr] at this ⊢;omega
theorem Vl {l:List Int} (h:∀y∈l,0≤y∧y≤255):byts l:=fun y hy=>by have:=h y hy;omega
theorem Wf {n:Int} (h:0≤n∧n≤255):0≤n∧n<256:=by omega
theorem A1w {a:law04_Air} (h:(0≤a.Rose∧a.Rose≤255)∧(0≤a.Gates∧a.Gates≤255)∧(0≤a.Tilt∧a.Tilt≤255)∧(∀y∈a.Kinds,0≤y∧y≤255)∧(∀y∈a.Low,0≤y∧y≤255)∧(∀y∈a.Wide,0≤y∧y≤255)):AirIn a :=
 ⟨Wf h.1,Wf h.2.1,Wf h.2.2.1,Vl h.2.2.2.1,Vl h.2.2.2.2.1,Vl h.2.2.2.2.2⟩
end Go.Proofs.YtkjnafecmjakcaaGreatDoor
namespace Go.Proofs.YtkjnafecmjakcaaGreatDoor
open Go Go.RowKit Go.Eng
set_option maxRecDepth 10000
set_option linter.unusedVariables false
set_option linter.unusedSimpArgs false
end Go.Proofs.YtkjnafecmjakcaaGreatDoor
namespace Go.Proofs.YtkjnafecmjakcaaGreatDoor
open Go Go.RowKit Go.Eng
set_option maxRecDepth 10000
set_option linter.unusedVariables false
set_option linter.unusedSimpArgs false
section
variable {s:api_Sweep} {R m:Nat} {t:T} {F:Nat} {a i:Int}
end
end Go.Proofs.YtkjnafecmjakcaaGreatDoor
namespace Go.Proofs.YtkjnafecmjakcaaGreatDoor
open Go Go.RowKit Go.Eng
set_option maxRecDepth 10000
set_option linter.unusedVariables false
set_option linter.unusedSimpArgs false
end Go.Proofs.YtkjnafecmjakcaaGreatDoor
namespace Go.Proofs.YtkjnafecmjakcaaGreatDoor
open Go Go.RowKit Go.Eng
set_option maxRecDepth 10000
set_option linter.unusedVariables false
set_option linter.unusedSimpArgs false
end Go.Proofs.YtkjnafecmjakcaaGreatDoor
namespace Go.Proofs.YtkjnafecmjakcaaGreatDoor
open Go Go.RowKit Go.Eng
set_option maxRecDepth 10000
set_option linter.unusedVariables false
set_option linter.unusedSimpArgs false
theorem Xn {q j m:Int} (h0:0≤j) (h1:j<m):(q*m+j)/m=q:=by
 rw [Int.mul_comm,Int.add_comm,Int.add_mul_ediv_left _ _ (by omega),Int.ediv_eq_zero_of_lt h0 h1];omega
theorem Xo {q j m:Int} (h0:0≤j) (h1:j<m):(q*m+j)%m=j:=by
 rw [Int.mul_comm,Int.add_comm,Int.add_mul_emod_self_left,Int.emod_eq_of_lt h0 h1]
theorem A26 (o m:Int):o/m*m+o%m=o:=Int.ediv_mul_add_emod o m
theorem Sy {R m k g b o:Int} (hR:1≤R) (hm:1≤m) (hg:0≤g):o∈nb1 R m k g b↔o≠k∧o/m=(b+R)%R∧0≤o%m∧o%m<m∧k%m-g≤o%m∧o%m≤k%m+g:=by
 have hkm:0≤k%m∧k%m<m:=⟨Int.emod_nonneg _ (by omega),Int.emod_lt_of_pos _ (by omega)⟩;unfold nb1;rw [List.mem_filter,bne_iff_ne,List.mem_map];constructor
 ·rintro ⟨⟨j,h1,rfl⟩,h2⟩;have h3:=R2.1 h1;have a:0≤j:=by have:=h3.1;split at this<;>omega
  have c:j<m:=by have:=h3.2;split at this<;>omega
  rw [Xn a c,Xo a c];refine ⟨h2,rfl,a,c,?_,?_⟩
  ·have:=h3.1;split at this<;>omega
  ·have:=h3.2;split at this<;>omega
 ·rintro ⟨h1,h2,h3,h4,h5,h6⟩;refine ⟨⟨o%m,R2.2 ⟨?_,?_⟩,?_⟩,h1⟩
  ·split<;>omega
  ·split<;>omega
  ·rw [←h2];exact A26 o m
theorem M7 {R m k r g o:Int} (hR:1≤R) (hm:1≤m) (hk:0≤k∧k<R*m) (hr:0≤r) (hg:0≤g) :
  o∈nbs R m k r g↔o≠k∧0≤o∧o<R*m∧k%m-g≤o%m∧o%m≤k%m+g∧∃d,-r≤d∧d≤r∧(k/m+d)%R=o/m:=by
 have ha:0≤k/m∧k/m<R:=⟨Int.ediv_nonneg hk.1 (by omega),Int.ediv_lt_of_lt_mul (by omega) hk.2⟩;have hom:0≤o%m∧o%m<m:=⟨Int.emod_nonneg _ (by omega),Int.emod_lt_of_pos _ (by omega)⟩;have hin:∀b,o/m=(b+R)%R→0≤o∧o<R*m:=by
  intro b h;have h1:=A26 o m;rw [←h1,h];exact Zn (Int.emod_nonneg _ (by omega)) (Int.emod_lt_of_pos _ (by omega)) hom.1 hom.2
 have hmod:∀x:Int,(x+R)%R=x%R:=fun x=>Int.add_emod_right ..;unfold nbs;rw [List.mem_flatMap]
 by_cases c:k/m+r-(k/m-r)≥R
 ·rw [if_pos c];constructor
  ·rintro ⟨b,h1,h2⟩;obtain ⟨n1,n2,n3,n4,n5,n6⟩:=(Sy hR hm hg).1 h2;obtain ⟨z1,z2⟩:=hin b n2;refine ⟨n1,z1,z2,n5,n6,(o/m-k/m+r)%R-r,?_,?_,?_⟩
   ·have:=Int.emod_nonneg (o/m-k/m+r) (show R≠0 by omega);omega
   ·have:=Int.emod_lt_of_pos (o/m-k/m+r) (show 0<R by omega);omega
   ·rw [show k/m+((o/m-k/m+r)%R-r)=(o/m-k/m+r)%R+(k/m-r) by omega,Int.emod_add_emod,show o/m-k/m+r+(k/m-r)=o/m by omega];rw [n2,Int.emod_emod_of_dvd _ (Int.dvd_refl R)]
  ·rintro ⟨n1,z1,z2,n5,n6,d,d1,d2,d3⟩;have hb:0≤o/m∧o/m<R:=⟨Int.ediv_nonneg z1 (by omega),Int.ediv_lt_of_lt_mul (by omega) z2⟩;exact ⟨o/m,R2.2 ⟨hb.1,by omega⟩,(Sy hR hm hg).2 ⟨n1,by rw [hmod,Int.emod_eq_of_lt hb.1 hb.2],hom.1,hom.2,n5,n6⟩⟩
 ·rw [if_neg c];constructor
  ·rintro ⟨b,h1,h2⟩;obtain ⟨n1,n2,n3,n4,n5,n6⟩:=(Sy hR hm hg).1 h2;obtain ⟨z1,z2⟩:=hin b n2;have hb:=R2.1 h1;exact ⟨n1,z1,z2,n5,n6,b-k/m,by omega,by omega,by rw [show k/m+(b-k/m)=b by omega,n2,hmod]⟩
  ·rintro ⟨n1,z1,z2,n5,n6,d,d1,d2,d3⟩;exact ⟨k/m+d,R2.2 ⟨by omega,by omega⟩,(Sy hR hm hg).2 ⟨n1,by rw [hmod,d3],hom.1,hom.2,n5,n6⟩⟩
def T.far:T→Int×Int
 | .leaf _ _=>(0,0)
 | .un _ r g a=>(a.far.1+r,a.far.2+g)
 | .bin _ a b=>(mx a.far.1 b.far.1,mx a.far.2 b.far.2)
def Nr (R m k o:Int) (x:Int×Int):Prop:=k%m-x.2≤o%m∧o%m≤k%m+x.2∧∃d,-x.1≤d∧d≤x.1∧(k/m+d)%R=o/m
theorem Mu:∀(t:T) (k:Bool),okT k t→0≤t.far.1∧0≤t.far.2:=by
 intro t
 induction t with
 | leaf op v=>intro k h;simp only [T.far];omega
 | un op r g a ih =>
  intro k h;obtain ⟨h1,h2,h3,-⟩:=okU h;have:=ih true h1;simp only [T.far];omega
 | bin op a b iha ihb =>
  intro k h;have hab:(∃q,okT q a)∧∃q,okT q b:=by
   cases k<;>simp only [okT] at h
   ·exact ⟨⟨_,h.2.1⟩,⟨_,h.2.2.1⟩⟩
   ·rcases h with h|h
    ·exact ⟨⟨_,h.2.1⟩,⟨_,h.2.2⟩⟩
    ·exact ⟨⟨_,h.2.2.1⟩,⟨_,h.2.2.2⟩⟩
  obtain ⟨⟨q,qa⟩,q',qb⟩:=hab;have:=iha q qa;have:=ihb q' qb;simp only [T.far,mx];split<;>split<;>omega
theorem Nr.self {R m k:Int} {x:Int×Int} (hm:1≤m) (hk:0≤k∧k<R*m) (hx:0≤x.1∧0≤x.2):Nr R m k k x:=by
 have ha:0≤k/m∧k/m<R:=⟨Int.ediv_nonneg hk.1 (by omega),Int.ediv_lt_of_lt_mul (by omega) hk.2⟩;exact ⟨by omega,by omega,0,by omega,by omega,by rw [Int.add_zero,Int.emod_eq_of_lt ha.1 ha.2]⟩
theorem Nr.trans {R m k o p:Int} {x y:Int×Int} (h:Nr R m k o x) (h':Nr R m o p y):Nr R m k p (y.1+x.1,y.2+x.2):=by
 obtain ⟨a1,a2,d,d1,d2,d3⟩:=h;obtain ⟨b1,b2,e,e1,e2,e3⟩:=h';refine ⟨by dsimp only;omega,by dsimp only;omega,d+e,by dsimp only;omega,by dsimp only;omega,?_⟩;rw [←d3,Int.emod_add_emod] at e3;rw [←e3];congr 1;omega
theorem Nr.mono {R m k o:Int} {x y:Int×Int} (h:Nr R m k o x) (h1:x.1≤y.1) (h2:x.2≤y.2):Nr R m k o y:=by
 obtain ⟨a1,a2,d,d1,d2,d3⟩:=h;exact ⟨by omega,by omega,d,by omega,by omega,d3⟩
theorem A4i {s s':api_Sweep} {R m:Nat} (h:Swp s R m) (h':Swp s' R m) (ht:s'.Tilt=s.Tilt):∀(t:T) (q:Bool),okT q t→∀k:Int,0≤k∧k<(R*m:Nat) →
  (∀o:Int,0≤o∧o<(R*m:Nat)→Nr R m k o t.far→Qq s' o=Qq s o)→t.sem s' k=t.sem s k:=by
 have hR:=h.R4;have hm:=h.m1;have e1:s.Rays.length=R:=h.hR;have e2:s.Site.Gates=(m:Int):=h.hm;have e1':s'.Rays.length=R:=h'.hR;have e2':s'.Site.Gates=(m:Int):=h'.hm;intro t
 induction t with
 | leaf op v =>
  intro q ho k hk hs;have:=hs k hk (Nr.self (by omega) (by rw [←Int.natCast_mul];exact hk) (by simp [T.far]));simp only [T.sem,S4,this,ht,e2,e2']
 | un op r g a ih =>
  intro q ho k hk hs;obtain ⟨o1,o2,o3,-⟩:=okU ho;have hf:=Mu a true o1;have hk':0≤k∧k<(R:Int)*m:=by rw [←Int.natCast_mul];exact hk
  have self:a.sem s' k=a.sem s k:=ih true o1 k hk fun o ho1 ho2=>hs o ho1 (ho2.mono (by simp only [T.far];omega) (by simp only [T.far];omega));have nb:∀o∈nbs s.Rays.length s.Site.Gates k r g,a.sem s' o=a.sem s o:=by
   intro o hmem;rw [e1,e2] at hmem;obtain ⟨n1,n2,n3,n4,n5,n6⟩:=(M7 (by omega) (by omega) hk' o2 o3).1 hmem;have ho:0≤o∧o<(R*m:Nat):=by rw [Int.natCast_mul];exact ⟨n2,n3⟩
   refine ih true o1 o ho fun p hp1 hp2=>hs p hp1 ?_;have hn:Nr R m k o (r,g):=⟨n4,n5,n6⟩;exact hn.trans hp2
  simp only [T.sem];rw [e1',e2',←e1,←e2];have c1:Pe op (nbs s.Rays.length s.Site.Gates k r g) (fun o=>(a.sem s' o).1)=Pe op (nbs s.Rays.length s.Site.Gates k r g) (fun o=>(a.sem s o).1):=by
   have key:∀(F:Int→Int→Int) (l:List Int),(∀o∈l,a.sem s' o=a.sem s o)→∀x,l.foldl (fun y o=>F y (a.sem s' o).1) x=l.foldl (fun y o=>F y (a.sem s o).1) x:=by
    intro F l
    induction l with
    | nil=>intro _ x;rfl
    | cons o l ih=>intro hl x;rw [List.foldl_cons,List.foldl_cons,hl o (by simp)];exact ih (fun p hp=>hl p (by simp [hp])) _
   unfold Pe;rw [key mn _ nb,key mx _ nb]
  have c2:Lu (nbs s.Rays.length s.Site.Gates k r g) (fun o=>(a.sem s' o).1)=Lu (nbs s.Rays.length s.Site.Gates k r g) (fun o=>(a.sem s o).1):=by
   have key:∀(F:Int→Bool) (l:List Int),(∀o∈l,a.sem s' o=a.sem s o)→l.countP (fun o=>F (a.sem s' o).1)=l.countP fun o=>F (a.sem s o).1:=by
    intro F l
    induction l with
    | nil=>intro _;rfl
    | cons o l ih=>intro hl;rw [List.countP_cons,List.countP_cons,hl o (by simp),ih fun p hp=>hl p (by simp [hp])]
   have k1:=key (fun x=>x==1) _ nb;have k2:=key (fun x=>x != 3) _ nb;unfold Lu;rw [k1,k2]
  rw [c1,c2,self]
 | bin op a b iha ihb =>
  intro q ho k hk hs;have hab:(∃q,okT q a)∧∃q,okT q b:=by
   cases q<;>simp only [okT] at ho
   ·exact ⟨⟨_,ho.2.1⟩,⟨_,ho.2.2.1⟩⟩
   ·rcases ho with ho|ho
    ·exact ⟨⟨_,ho.2.1⟩,⟨_,ho.2.2⟩⟩
    ·exact ⟨⟨_,ho.2.2.1⟩,⟨_,ho.2.2.2⟩⟩
  obtain ⟨⟨q1,qa⟩,q2,qb⟩:=hab;have i1:=iha q1 qa k hk fun o h1 h2=>hs o h1 (h2.mono (by simp only [T.far,mx];split<;>omega) (by simp only [T.far,mx];split<;>omega));have i2:=ihb q2 qb k hk fun o h1 h2=>hs o h1 (h2.mono (by simp only [T.far,mx];split<;>omega) (by simp only [T.far,mx];split<;>omega));simp only [T.sem,i1,i2]
end Go.Proofs.YtkjnafecmjakcaaGreatDoor
namespace Go.Proofs.YtkjnafecmjakcaaGreatDoor
open Go Go.RowKit Go.Eng
set_option maxRecDepth 10000
set_option linter.unusedVariables false
set_option linter.unusedSimpArgs false
theorem A2c (F:Nat) (p:sift_Node):Mk (F+1) p=Hv (Mk F) p F 0 0 0:=rfl
theorem A2g {self_:sift_Node→Option (Int×Int)} {p u:sift_Node} {F:Nat} {x y z a b:Int} {i:Nat} (hi:x=(i:Int)) (hu:p.Args[i]? = some u) (hl:p.Args.length≤2) (hs:self_ u=some (a,b)) :
  Hv self_ p (F+1) x y z=Hv self_ p F (x+1) (mx y a) (mx z b):=by
 subst hi;have hlt:=(List.getElem?_eq_some_iff.1 hu).1;show Ki self_ p _ _ _ _=_;rw [Ki,Bf (dT (by omega)),D9 i u rfl hu,hs,sbd,ckb (by omega)];rfl
theorem Zh {self_:sift_Node→Option (Int×Int)} {p:sift_Node} {F:Nat} {x y z:Int} (hx:(p.Args.length:Int)≤x) (h:(0≤y+p.Rays∧y+p.Rays≤1000000000)∧0≤z+p.Gates∧z+p.Gates≤1000000000) :
  Hv self_ p (F+1) x y z=some (y+p.Rays,z+p.Gates):=by
 show Ki self_ p _ _ _ _=_;rw [Ki,Ao (dF (by omega)),Q0,ckb (by omega),ckb (by omega)]
theorem Ze:∀(t:T) (k:Bool),okT k t→t.far.1≤3*(t.depth:Int)∧t.far.2≤3*(t.depth:Int):=by
 intro t
 induction t with
 | leaf op v=>intro k h;simp only [T.far,T.depth];omega
 | un op r g a ih =>
  intro k h;obtain ⟨h1,h2,h3,h4⟩:=okU h;have:=ih true h1;have h5:r≤3∧g≤3:=by cases k<;>simp only [okT] at h<;>omega
  simp only [T.far,T.depth];omega
 | bin op a b iha ihb =>
  intro k h;have hab:(∃q,okT q a)∧∃q,okT q b:=by
   cases k<;>simp only [okT] at h
   ·exact ⟨⟨_,h.2.1⟩,⟨_,h.2.2.1⟩⟩
   ·rcases h with h|h
    ·exact ⟨⟨_,h.2.1⟩,⟨_,h.2.2⟩⟩
    ·exact ⟨⟨_,h.2.2.1⟩,⟨_,h.2.2.2⟩⟩
  obtain ⟨⟨q,qa⟩,q',qb⟩:=hab;have:=iha q qa;have:=ihb q' qb;simp only [T.far,T.depth,mx];split<;>split<;>omega
theorem U9 {a:Int} (h:0≤a):mx 0 a=a:=by unfold mx;split<;>omega
theorem A5o:∀(t:T) (k:Bool) (F:Nat),okT k t→t.depth+4≤F→t.depth≤1000000→Mk F t.node=some t.far:=by
 intro t
 induction t with
 | leaf op v =>
  intro k F h hF h1;obtain ⟨F,rfl⟩:∃G,F=G+2:=⟨F-2,by simp only [T.depth] at hF;omega⟩;rw [A2c,Zh (by simp [T.node]) (by simp only [T.node];omega)];rfl
 | un op r g a ih =>
  intro k F h hF h1;have hf:=Ze (.un op r g a) k h;have hn:=Mu (.un op r g a) k h;obtain ⟨o1,o2,o3,-⟩:=okU h;have hn1:=Mu a true o1;simp only [T.depth] at hF h1 hf;simp only [T.far] at hf hn;obtain ⟨F,rfl⟩:∃G,F=G+3:=⟨F-3,by omega⟩;rw [A2c,A2g (p:=(T.un op r g a).node) (x:=0) (y:=0) (z:=0) (i:=0) (u:=a.node) rfl rfl (by simp [T.node]) (ih true (F+2) o1 (by omega) (by omega)),U9 hn1.1,U9 hn1.2,Zh (by simp [T.node]) (by simp only [T.node];omega)];rfl
 | bin op a b iha ihb =>
  intro k F h hF h1;have hf:=Ze (.bin op a b) k h;have hn:=Mu (.bin op a b) k h;have hab:(∃q,okT q a)∧∃q,okT q b:=by
   cases k<;>simp only [okT] at h
   ·exact ⟨⟨_,h.2.1⟩,⟨_,h.2.2.1⟩⟩
   ·rcases h with h|h
    ·exact ⟨⟨_,h.2.1⟩,⟨_,h.2.2⟩⟩
    ·exact ⟨⟨_,h.2.2.1⟩,⟨_,h.2.2.2⟩⟩
  obtain ⟨⟨q,qa⟩,q',qb⟩:=hab;have hn1:=Mu a q qa;simp only [T.depth] at hF h1 hf;simp only [T.far] at hf hn;obtain ⟨F,rfl⟩:∃G,F=G+4:=⟨F-4,by omega⟩;rw [A2c,A2g (p:=(T.bin op a b).node) (x:=0) (y:=0) (z:=0) (i:=0) (u:=a.node) rfl rfl (by simp [T.node]) (iha q (F+3) qa (by omega) (by omega)),U9 hn1.1,U9 hn1.2,A2g (p:=(T.bin op a b).node) (x:=0+1) (i:=1) (u:=b.node) rfl rfl (by simp [T.node]) (ihb q' (F+3) qb (by omega) (by omega)),Zh (by simp [T.node]) (by simp only [T.node];omega)];simp only [T.far,T.node,Int.add_zero]
theorem A56 {a b:Int}:a≤mx a b∧b≤mx a b:=by unfold mx;split<;>omega
theorem A31 {L:List (ByteArray×T)} (h:GoodR L) {F:Nat} (hF:400≤F):∃A B,N6 F (rl L)=some (A,B,0)∧(0≤A∧A≤100)∧(0≤B∧B≤100)∧∀p∈L,p.2.far.1≤A∧p.2.far.2≤B:=by
 have hlen:=h.len;have go:∀(n j:Nat) (y z:Int),L.length+1≤n+j→j≤L.length→(0≤y∧y≤100)→(0≤z∧z≤100)→(∀(i:Nat) p,i<j→L[i]? = some p→p.2.far.1≤y∧p.2.far.2≤z) →
   ∃A B,Lk F (rl L) n j y z=some (A,B,0)∧(0≤A∧A≤100)∧(0≤B∧B≤100)∧∀p∈L,p.2.far.1≤A∧p.2.far.2≤B:=by
  intro n
  induction n with
  | zero=>intro j y z h1 h2;omega
  | succ n ih =>
   intro j y z h1 h2 h3 h4 h5;show ∃A B,Lj F (rl L) _ j y z=_∧_;unfold Lj;rw [Q6]
   by_cases hj:j<L.length
   ·have hp:=List.getElem?_eq_getElem hj;have hm:=List.getElem_mem hj;generalize L[j]=p at hp hm;obtain ⟨t1,t2⟩:=h.trees p hm;have f1:=Mu p.2 true t1;have f2:=Ze p.2 true t1;have m1:=A56 (a:=y) (b:=p.2.far.1);have m2:=A56 (a:=z) (b:=p.2.far.2);rw [Bf (dT (by omega)),D9 j _ rfl (W7 hp),show Mk F (rlN p).When=some p.2.far from A5o p.2 true F t1 (by omega) (by omega),sbd,ckb (by omega)];refine ih (j+1) (mx y p.2.far.1) (mx z p.2.far.2) (by omega) (by omega) ⟨by omega,by unfold mx;split<;>omega⟩ ⟨by omega,by unfold mx;split<;>omega⟩ fun i q hi hq=>?_
    by_cases e:i=j
    ·subst e;rw [hp] at hq;cases hq;exact ⟨m1.2,m2.2⟩
    ·have:=h5 i q (by omega) hq;omega
   ·rw [Ao (dF (by omega))];refine ⟨y,z,rfl,h3,h4,fun p hp=>?_⟩;obtain ⟨i,hi,e⟩:=List.mem_iff_getElem.1 hp;exact h5 i p (by omega) (by rw [←e];exact List.getElem?_eq_getElem hi)
 unfold N6;rw [Y3 h hF,sbd,Ao (neF rfl)];exact go F 0 0 0 (by omega) (by omega) (by omega) (by omega) (fun i p hi=>by omega)
theorem X0 (lo hi:Int):(irg lo hi).Nodup:=by
 unfold irg;rw [List.nodup_iff_pairwise_ne,List.pairwise_map];exact (List.nodup_iff_pairwise_ne.1 List.nodup_range).imp fun h=>by omega
theorem X6 {R m k r g:Int} (hR:1≤R) (hm:1≤m) (hg:0≤g):(nbs R m k r g).Nodup:=by
 unfold nbs;rw [List.nodup_iff_pairwise_ne,List.pairwise_flatMap];constructor
 ·intro b _;unfold nb1;refine List.Pairwise.filter _ ?_;rw [List.pairwise_map];exact (List.nodup_iff_pairwise_ne.1 (X0 _ _)).imp fun h=>by omega
 ·have key:∀(lo hi:Int),hi-lo<R→(irg lo hi).Pairwise fun a b=>∀x∈nb1 R m k g a,∀y∈nb1 R m k g b,x≠y:=by
   intro lo hi hlh;refine List.Pairwise.imp_of_mem ?_ (List.nodup_iff_pairwise_ne.1 (X0 lo hi));intro a b ha hb hab x hx y hy e;have ha:=R2.1 ha;have hb:=R2.1 hb;have x2:=((Sy hR hm hg).1 hx).2.1;have y2:=((Sy hR hm hg).1 hy).2.1;rw [e,y2] at x2;rw [Int.add_emod_right,Int.add_emod_right] at x2;have d:=Int.emod_emod_of_dvd (b-a) (Int.dvd_refl R);have z:(b-a)%R=0:=by rw [Int.sub_emod,x2,Int.sub_self];rfl
   have z2:=Int.dvd_of_emod_eq_zero z;obtain ⟨c,hc⟩:=z2;have hc0:c=0:=by
    by_cases c1:1≤c
    ·have:=Int.mul_le_mul_of_nonneg_left c1 (show 0≤R by omega);omega
    ·by_cases c2:c≤-1
     ·have:=Int.mul_le_mul_of_nonneg_left c2 (show 0≤R by omega);omega
     ·omega
   rw [hc0] at hc;omega
  split
  ·exact key _ _ (by omega)
  ·exact key _ _ (by omega)
def tn (R m c k:Int):Int:=(k/m+c)%R*m+k%m
theorem A0o {R m c k:Int} (hR:1≤R) (hm:1≤m):0≤tn R m c k∧tn R m c k<R*m :=
 Zn (Int.emod_nonneg _ (by omega)) (Int.emod_lt_of_pos _ (by omega)) (Int.emod_nonneg _ (by omega)) (Int.emod_lt_of_pos _ (by omega))
theorem Xx {R m c k:Int} (hm:1≤m):tn R m c k/m=(k/m+c)%R:=Xn (Int.emod_nonneg _ (by omega)) (Int.emod_lt_of_pos _ (by omega))
theorem Ts {R m c k:Int} (hm:1≤m):tn R m c k%m=k%m:=Xo (Int.emod_nonneg _ (by omega)) (Int.emod_lt_of_pos _ (by omega))
theorem Vo {R m c k:Int} (hR:1≤R) (hm:1≤m) (hk:0≤k∧k<R*m):tn R m (-c) (tn R m c k)=k:=by
 have ha:0≤k/m∧k/m<R:=⟨Int.ediv_nonneg hk.1 (by omega),Int.ediv_lt_of_lt_mul (by omega) hk.2⟩;have:tn R m (-c) (tn R m c k)=(tn R m c k/m + -c)%R*m+tn R m c k%m:=rfl;rw [this,Xx hm,Ts hm,Int.emod_add_emod,show k/m+c + -c=k/m by omega,Int.emod_eq_of_lt ha.1 ha.2,A26]
theorem A3f {R m c k k':Int} (hR:1≤R) (hm:1≤m) (hk:0≤k∧k<R*m) (hk':0≤k'∧k'<R*m) (h:tn R m c k=tn R m c k'):k=k':=by
 rw [←Vo (c:=c) hR hm hk,h,Vo hR hm hk']
theorem A2p {R m k r g c:Int} (hR:1≤R) (hm:1≤m) (hk:0≤k∧k<R*m) (hr:0≤r) (hg:0≤g):((nbs R m k r g).map (tn R m c)).Perm (nbs R m (tn R m c k) r g):=by
 have hin:∀o∈nbs R m k r g,0≤o∧o<R*m:=fun o ho=>by
  obtain ⟨-,n2,n3,-⟩:=(M7 hR hm hk hr hg).1 ho;exact ⟨n2,n3⟩
 refine (List.perm_ext_iff_of_nodup ?_ (X6 hR hm hg)).2 fun o=>?_
 ·rw [List.nodup_iff_pairwise_ne,List.pairwise_map];exact List.Pairwise.imp_of_mem (fun ha hb hab e=>hab (A3f hR hm (hin _ ha) (hin _ hb) e)) (List.nodup_iff_pairwise_ne.1 (X6 hR hm hg))
 ·have fwd:∀(c k:Int),0≤k∧k<R*m→∀o,o∈nbs R m k r g→tn R m c o∈nbs R m (tn R m c k) r g:=by
   intro c k hk o ho;obtain ⟨n1,n2,n3,n4,n5,d,d1,d2,d3⟩:=(M7 hR hm hk hr hg).1 ho;obtain ⟨t1,t2⟩:=A0o (c:=c) (k:=o) hR hm;refine (M7 hR hm (A0o hR hm) hr hg).2 ⟨fun e=>n1 (A3f hR hm ⟨n2,n3⟩ hk e),t1,t2,by rw [Ts hm,Ts hm];exact n4,by rw [Ts hm,Ts hm];exact n5,d,d1,d2,?_⟩;rw [Xx hm,Xx hm,Int.emod_add_emod,←d3,Int.emod_add_emod]
   congr 1;omega
  rw [List.mem_map];constructor
  ·rintro ⟨x,h1,rfl⟩;exact fwd c k hk x h1
  ·intro h;obtain ⟨-,n2,n3,-⟩:=(M7 hR hm (A0o hR hm) hr hg).1 h;have:=fwd (-c) _ (A0o hR hm) o h;rw [Vo hR hm hk] at this;refine ⟨_,this,?_⟩;have e:=Vo (c:=-c) hR hm ⟨n2,n3⟩
   rwa [Int.neg_neg] at e
theorem Wz {F:Int→Int→Int} (hF:∀a b c,F (F a b) c=F (F a c) b) {l l':List Int} (h:l.Perm l'):∀x,l.foldl F x=l'.foldl F x:=by
 induction h with
 | nil=>intro x;rfl
 | cons a _ ih=>intro x;exact ih _
 | swap a b l=>intro x;simp only [List.foldl_cons];rw [hF]
 | trans _ _ ih1 ih2=>intro x;rw [ih1,ih2]
theorem A1k {op:Int} {l l':List Int} {f:Int→Int} (h:l.Perm l'):Pe op l f=Pe op l' f:=by
 unfold Pe;have h2:=h.map f;have e:∀(G:Int→Int→Int) (l:List Int) (x:Int),l.foldl (fun a o=>G a (f o)) x=(l.map f).foldl G x:=fun G l x=>(List.foldl_map ..).symm;rw [e mn,e mn,e mx,e mx,Wz (F:=mn) (by intro a b c;unfold mn;(repeat' split)<;>omega) h2,Wz (F:=mx) (by intro a b c;unfold mx;(repeat' split)<;>omega) h2]
theorem Z6 {l l':List Int} {f:Int→Int} (h:l.Perm l'):Lu l f=Lu l' f:=by
 unfold Lu;rw [h.countP_eq,h.countP_eq]
theorem A2r {op:Int} {l:List Int} {f g:Int→Int} {t:Int→Int} (h:∀o∈l,f o=g (t o)):Pe op l f=Pe op (l.map t) g:=by
 have key:∀(F:Int→Int→Int) (l:List Int),(∀o∈l,f o=g (t o))→∀x,l.foldl (fun y o=>F y (f o)) x=(l.map t).foldl (fun y o=>F y (g o)) x:=by
  intro F l
  induction l with
  | nil=>intro _ x;rfl
  | cons o l ih=>intro hl x;rw [List.map_cons,List.foldl_cons,List.foldl_cons,hl o (by simp)];exact ih (fun p hp=>hl p (by simp [hp])) _
 unfold Pe;rw [key mn _ h,key mx _ h]
theorem A10 {l:List Int} {f g:Int→Int} {t:Int→Int} (h:∀o∈l,f o=g (t o)):Lu l f=Lu (l.map t) g:=by
 have key:∀(F:Int→Bool) (l:List Int),(∀o∈l,f o=g (t o))→l.countP (fun o=>F (f o))=(l.map t).countP fun o=>F (g o):=by
  intro F l
  induction l with
  | nil=>intro _;rfl
  | cons o l ih=>intro hl;rw [List.map_cons,List.countP_cons,List.countP_cons,hl o (by simp),ih fun p hp=>hl p (by simp [hp])]
 unfold Lu;rw [key (fun x=>x==1) _ h,key (fun x=>x != 3) _ h]
theorem A37 {s s':api_Sweep} {R m:Nat} (h:Swp s R m) (h':Swp s' R m) (ht:s'.Tilt=s.Tilt) {c:Int} (hs:∀o:Int,0≤o∧o<(R*m:Nat)→Qq s' o=Qq s (tn R m c o)) :
  ∀(t:T) (q:Bool),okT q t→t.noRay→∀k:Int,0≤k∧k<(R*m:Nat)→(q=true→(t.sem s' k).1=(t.sem s (tn R m c k)).1)∧(q=false→(t.sem s' k).2=(t.sem s (tn R m c k)).2):=by
 have hR:=h.R4;have hm:=h.m1;have e1:s.Rays.length=R:=h.hR;have e2:s.Site.Gates=(m:Int):=h.hm;have e1':s'.Rays.length=R:=h'.hR;have e2':s'.Site.Gates=(m:Int):=h'.hm;intro t
 induction t with
 | leaf op v =>
  intro q ho hr k hk;refine ⟨fun _=>rfl,fun _=>?_⟩;have hop:op≠22:=hr;simp only [T.sem,S4,hs k hk,ht,e2,e2',if_neg hop,Ts (show (1:Int)≤m by omega)]
 | un op r g a ih =>
  intro q ho hr k hk;obtain ⟨o1,o2,o3,-⟩:=okU ho;have hk':0≤k∧k<(R:Int)*m:=by rw [←Int.natCast_mul];exact hk
  have self:=(ih true o1 hr k hk).1 rfl;have nb:∀o∈nbs R m k r g,(a.sem s' o).1=(a.sem s (tn R m c o)).1:=by
   intro o hmem;obtain ⟨n1,n2,n3,-⟩:=(M7 (by omega) (by omega) hk' o2 o3).1 hmem;exact (ih true o1 hr o (by rw [Int.natCast_mul];exact ⟨n2,n3⟩)).1 rfl
  have pm:=A2p (c:=c) (show (1:Int)≤R by omega) (show (1:Int)≤m by omega) hk' o2 o3;simp only [T.sem];rw [e1',e2',e1,e2];refine ⟨fun _=>?_,fun _=>?_⟩
  ·rw [self,A2r (g:=fun o=>(a.sem s o).1) nb,A1k pm]
  ·rw [A10 (g:=fun o=>(a.sem s o).1) nb,Z6 pm]
 | bin op a b iha ihb =>
  intro q ho hr k hk
  cases q<;>simp only [okT] at ho
  ·refine ⟨(by simp),fun _=>?_⟩;simp only [T.sem,(iha _ ho.2.1 hr.1 k hk).2 rfl,(ihb _ ho.2.2.1 hr.2 k hk).2 rfl]
  ·refine ⟨fun _=>?_,by simp⟩;rcases ho with ho|ho
   ·have c1:op=4∨op=5:=ho.1;simp only [T.sem,(iha _ ho.2.1 hr.1 k hk).1 rfl,(ihb _ ho.2.2 hr.2 k hk).1 rfl];rcases c1 with rfl|rfl<;>simp
   ·have n4:op≠4:=by omega
    have n5:op≠5:=by omega
    simp only [T.sem,if_neg n4,if_neg n5,(iha _ ho.2.2.1 hr.1 k hk).2 rfl,(ihb _ ho.2.2.2 hr.2 k hk).2 rfl]
end Go.Proofs.YtkjnafecmjakcaaGreatDoor
namespace Go.Proofs.YtkjnafecmjakcaaGreatDoor
open Go Go.RowKit Go.Eng
set_option maxRecDepth 10000
set_option linter.unusedVariables false
set_option linter.unusedSimpArgs false
theorem A5u {β:Type} {c1:Bool} {X Y j:Int} {f g:Option β} (hX:-9000000000000000000≤X∧X≤9000000000000000000) (hY:-9000000000000000000≤Y∧Y≤9000000000000000000) :
  ((gd ((c1==false&&true)) (ck X) 0).bind fun x=>(gd (((bif c1 then true else (decide (j>x)))==false&&true)) (ck Y) 0).bind fun y=>bif (bif (bif c1 then true else (decide (j>x))) then true else (decide (j<y))) then f else g)=bif (c1||decide (j>X)||decide (j<Y)) then f else g:=by
 cases c1
 ·rw [gdT (g:=false==false&&true) rfl,ckb hX]
  by_cases h:j>X
  ·rw [dT h,gdF (g:=(bif false then true else true)==false&&true) rfl,sbd];rfl
  ·rw [dF h,gdT (g:=(bif false then true else false)==false&&true) rfl,ckb hY];rfl
 ·rw [gdF (g:=true==false&&true) rfl,sbd,gdF (g:=(bif true then true else decide (j>0))==false&&true) rfl,sbd];rfl
theorem A0j {α:Type} {l:List α} {R c a:Nat} (hl:l.length=R) (hc:c<R) (ha:a<R):(l.drop c++l.take c)[a]? = l[(a+c)%R]?:=by
 by_cases h:a+c<R
 ·rw [List.getElem?_append_left (by simp;omega),List.getElem?_drop,Nat.mod_eq_of_lt h,Nat.add_comm]
 ·rw [List.getElem?_append_right (by simp;omega),List.length_drop,hl,List.getElem?_take_of_lt (by omega),Nat.mod_eq_sub_mod (by omega),Nat.mod_eq_of_lt (by omega)]
  congr 1;omega
theorem A0g (s:api_Sweep) (k:Int) (p:ByteArray×T) (M:List (ByteArray×T)) (j:Int) (l:List Int):jv k (Mr s (p::M)) j l=if (p.2.sem s k).1=1 then ⟨j,l⟩ else if (p.2.sem s k).1=2 then jv k (Mr s M) (j+1) (l++[j]) else jv k (Mr s M) (j+1) l:=rfl
theorem A0h {s s':api_Sweep} {k k':Int}:∀(L:List (ByteArray×T)) (j:Int) (l:List Int),(∀p∈L,(p.2.sem s k).1=(p.2.sem s' k').1)→jv k (Mr s L) j l=jv k' (Mr s' L) j l:=by
 intro L
 induction L with
 | nil=>intro j l _;rfl
 | cons p L ih =>
  intro j l h;rw [A0g,A0g,h p (by simp),ih _ _ fun q hq=>h q (by simp [hq]),ih _ _ fun q hq=>h q (by simp [hq])]
theorem U6 {s:api_Sweep} {R m:Nat} {L:List (ByteArray×T)} {b:Nat} (hb:b<R):(Pd s R m L)[b]? = some ((List.range m).map fun j=>jv ((b*m+j:Nat):Int) (Mr s L) 0 []):=by
 simp [Pd,hb]
theorem K7 (s:api_Sweep) (R m:Nat) (L:List (ByteArray×T)):(Pd s R m L).length=R:=by simp [Pd]
theorem A6f {R d A b i:Int} (hR:1≤R) (h1:-A≤d) (h2:d≤A) (h3:(i+d)%R=b):(if R-(b-i+R)%R<(b-i+R)%R then R-(b-i+R)%R else (b-i+R)%R)≤A:=by
 have e:(b-i+R)%R=d%R:=by
  rw [Int.add_emod_right,←h3,show (i+d)%R-i=(i+d)%R + -i by omega,Int.emod_add_emod]
  congr 1;omega
 rw [e];have p1:=Int.emod_nonneg d (show R≠0 by omega);have p2:=Int.emod_lt_of_pos d (show 0<R by omega);have p3:=Int.mul_ediv_add_emod d R;generalize d%R=x at *;generalize d/R=q at *
 by_cases c:0≤q
 ·have:=Int.mul_nonneg (show 0≤R by omega) c
  split<;>omega
 ·have:=Int.mul_le_mul_of_nonneg_left (show q≤-1 by omega) (show 0≤R by omega)
  split<;>omega
def nrC (R A B i k:Int) (b j:Int):Prop:=(if R-(b-i+R)%R<(b-i+R)%R then R-(b-i+R)%R else (b-i+R)%R)≤A∧j≤k+B∧k-B≤j
theorem A2o {s o:api_Sweep} {r m:Nat} (h:Okw s r m) (ho:Okw o r m) {A B:Int} (hA:0≤A∧A≤100) (hB:0≤B∧B≤100) {i k:Nat} (hi:i<4*r) (hk:k<m) (p6:Int) (y25:(List sift_Rule)×List Int) {F:Nat} (hF:50≤F) :
  ∃M,Okw ⟨s.Site,s.Tilt,s.Time,M⟩ r m∧(∀(b j:Nat),b<4*r→j<m→nrC (4*r:Nat) A B i k b j→(M[b]?.getD [])[j]? = (s.Rays[b]?.getD [])[j]?) ∧
   Cv F p6 y25 s o (A,B,0) i k F [] 0=Ew F p6 y25 s i k M:=by
 have hr1:=h.r1;have hm1:=h.m1;have hlen:=h.len;have hlen':=ho.len;have hSw:=h.site;have l5:∀(b:Nat) (hb:b<4*r) (st:List (List api_Echo)) (hst:st.length≤20) (d:Int),d=((b:Int)-i+(4*r:Nat))%(4*r:Nat)→∀(row:List api_Echo),s.Rays[b]? = some row→∀(k2:List (List api_Echo)→Int→Option Bool),
   ∀(n j:Nat) (l:List api_Echo),m+1≤n+j→j≤m→l.length=j→(∀e∈l,okE e)→(∀x:Nat,x<j→nrC (4*r:Nat) A B i k b x→l[x]? = row[x]?) →
   ∃row':List api_Echo,row'.length=m∧(∀e∈row',okE e)∧(∀x:Nat,x<m→nrC (4*r:Nat) A B i k b x→row'[x]? = row[x]?)∧Ca s o (A,B,0) k st b k2 d row n l j=k2 (st++[row']) ((b:Int)+1):=by
  intro b hb st hst d hd row hrow k2 n;obtain ⟨hb',hrow'⟩:=List.getElem?_eq_some_iff.1 hrow;obtain ⟨w1,w2⟩:=h.rows row (hrow'▸List.getElem_mem hb');have hdr:0≤d∧d<(4*r:Nat):=by rw [hd];exact ⟨Int.emod_nonneg _ (by omega),Int.emod_lt_of_pos _ (by omega)⟩
  induction n with
  | zero=>intro j l h1 h2;omega
  | succ n ih =>
   intro j l h1 h2 h3 h4 h5;show ∃row':List api_Echo,_∧_∧_∧Gp s o (A,B,0) k st b k2 d row _ l j=_;unfold Gp
   by_cases hj:j<m
   ·have hx:row[j]? = some row[j]:=List.getElem?_eq_getElem (by omega);have hok:okE row[j]:=w2 _ (List.getElem_mem (by omega));have hob:b<o.Rays.length:=by omega
    obtain ⟨v1,v2⟩:=ho.rows _ (List.getElem_mem hob);have hoj:j<(o.Rays[b]).length:=by omega
    have hok2:okE o.Rays[b][j]:=v2 _ (List.getElem_mem hoj);have k6:∀e:api_Echo,okE e→(nrC (4*r:Nat) A B i k b j→e=row[j])→∃row':List api_Echo,row'.length=m∧(∀e∈row',okE e)∧(∀x:Nat,x<m→nrC (4*r:Nat) A B i k b x→row'[x]? = row[x]?) ∧
      Ex l j (Ca s o (A,B,0) k st b k2 d row n) e.Kind e.Power.Lo e.Match.Lo e.Match.Hi e.Turn.Lo e.Turn.Hi e.Power.Hi e.Steps.1.Lo e.Steps.1.Hi e.Steps.2.Lo e.Steps.2.Hi e.Spread e.Ratio.Lo e.Ratio.Hi=k2 (st++[row']) ((b:Int)+1):=by
     intro e he hne;have ha:Ex l j (Ca s o (A,B,0) k st b k2 d row n) e.Kind e.Power.Lo e.Match.Lo e.Match.Hi e.Turn.Lo e.Turn.Hi e.Power.Hi e.Steps.1.Lo e.Steps.1.Hi e.Steps.2.Lo e.Steps.2.Hi e.Spread e.Ratio.Lo e.Ratio.Hi=Ca s o (A,B,0) k st b k2 d row n (l++[e]) ((j+1:Nat):Int):=by
      show (apd 112 l [e]).bind _=_;rw [show apd 112 l [e]=some (l++[e]) by unfold apd;rw [if_pos (by simp;omega)],sbd,ckb (by omega)];rfl
     rw [ha];refine ih (j+1) (l++[e]) (by omega) (by omega) (by simp;omega) (fun x hx'=>?_) (fun x hx' hc=>?_)
     ·rcases List.mem_append.1 hx' with hx'|hx'
      ·exact h4 x hx'
      ·rw [List.mem_singleton] at hx';subst hx';exact he
     ·by_cases c:x<j
      ·rw [List.getElem?_append_left (by omega)];exact h5 x c hc
      ·have:x=j:=by omega
       subst this;rw [List.getElem?_append_right (by omega),h3,Nat.sub_self,hx,←hne hc];rfl
    rw [Bf (dT (by omega)),D9 b row rfl hrow,D9 j _ rfl hx,hlen,ckb (by omega),A5u (by dsimp only;omega) (by dsimp only;omega)];dsimp only
    cases hc:(decide ((if ((4*r:Nat):Int)-d<d then ((4*r:Nat):Int)-d else d)>A)||decide ((j:Int)>k+B)||decide ((j:Int)<k-B))
    ·rw [Ao rfl];exact k6 _ hok fun _=>rfl
    ·rw [Bf rfl,D9 b _ rfl (List.getElem?_eq_getElem hob),D9 j _ rfl (List.getElem?_eq_getElem hoj)];refine k6 _ hok2 fun hn=>?_;exfalso;unfold nrC at hn;rw [←hd] at hn;simp only [Bool.or_eq_true,decide_eq_true_eq] at hc;omega
   ·rw [Ao (dF (by omega))];unfold Jy Jx;rw [show apd 24 st [l]=some (st++[l]) by unfold apd;rw [if_pos (by simp;omega)],sbd,ckb (by omega)];exact ⟨l,by omega,h4,fun x hx hc=>h5 x (by omega) hc,rfl⟩
 have l2:∀(n b:Nat) (st:List (List api_Echo)),4*r+1≤n+b→b≤4*r→st.length=b→(∀l∈st,l.length=m∧∀e∈l,okE e)→(∀(c j:Nat),c<b→j<m→nrC (4*r:Nat) A B i k c j→(st[c]?.getD [])[j]? = (s.Rays[c]?.getD [])[j]?) →
   ∃M,Okw ⟨s.Site,s.Tilt,s.Time,M⟩ r m∧(∀(b j:Nat),b<4*r→j<m→nrC (4*r:Nat) A B i k b j→(M[b]?.getD [])[j]? = (s.Rays[b]?.getD [])[j]?) ∧
    Cv F p6 y25 s o (A,B,0) i k n st b=Ew F p6 y25 s i k M:=by
  intro n
  induction n with
  | zero=>intro b st h1 h2;omega
  | succ n ih =>
   intro b st h1 h2 h3 h4 h5;show ∃M,_∧_∧Gn F p6 y25 s o (A,B,0) i k (Cv F p6 y25 s o (A,B,0) i k n) st b=_;unfold Gn;rw [hlen]
   by_cases hb:b<4*r
   ·have hrow:=List.getElem?_eq_getElem (show b<s.Rays.length by omega);obtain ⟨row',q1,q2,q3,q4⟩:=l5 b hb st (by omega) _ rfl _ hrow (Cv F p6 y25 s o (A,B,0) i k n) F 0 [] (by omega) (by omega) rfl (by simp) (fun x hx=>by omega);rw [Bf (dT (by omega)),ckb (by omega),ckb (by omega),Ro (by omega) (by omega),D9 b _ rfl hrow,show Ca s o (A,B,0) k st b _ _ _ F [] 0=_ from q4];refine ih (b+1) (st++[row']) (by omega) (by omega) (by simp;omega) (fun l hl=>?_) (fun c j hc hj hn=>?_)
    ·rcases List.mem_append.1 hl with hl|hl
     ·exact h4 l hl
     ·rw [List.mem_singleton] at hl;subst hl;exact ⟨q1,q2⟩
    ·by_cases e:c<b
     ·rw [List.getElem?_append_left (by omega)];exact h5 c j e hj hn
     ·have:c=b:=by omega
      subst this;rw [List.getElem?_append_right (by omega),h3,Nat.sub_self,hrow];exact q3 j hj hn
   ·rw [Ao (dF (by omega))];have e:b=4*r:=by omega
    refine ⟨st,⟨h.site,h.r1,h.m1,h.time,h.tilt,by dsimp only;omega,h4⟩,fun c j hc hj hn=>h5 c j (by omega) hj hn,rfl⟩
 exact l2 F 0 [] (by omega) (by omega) rfl (by simp) (fun c j hc=>by omega)
theorem Y0 {p:List Int} {n:Int} {a b:law04_Air} {ray gate shift:Int} (hp:byts p) (hn:0≤n∧n<256) (ha:AirIn a) (hb:AirIn b) (hr:0≤ray∧ray<256) (hg:0≤gate∧gate<256) (hsh:0≤shift∧shift<256):K8 4000 p n a b ray gate shift=some true:=by
 generalize hF:4000=F;have hF2:4000≤F:=by omega
 have hw:M5 F=some true:=by rw [←hF];exact A01
 obtain ⟨L,p',q1,q2,-⟩:=A34 hp hn false (F:=F) (by omega);obtain ⟨s,q3,q4⟩:=A1x ha (F:=F) (by omega);obtain ⟨o,q5,q6⟩:=A1x (a:=law04_Air.mk a.Rose a.Gates b.Tilt b.Kinds b.Low b.Wide) ⟨ha.rose,ha.gates,hb.tilt,hb.kinds,hb.low,hb.wide⟩ (F:=F) (by omega);dsimp only at q6;generalize (1+a.Rose%3).toNat=r at *;generalize (1+a.Gates%4).toNat=m at *;have hok:∀p∈L,okT true p.2:=fun p hp=>(q2.trees p hp).ok;have hgd:=q2.good;have hr1:=q4.r1;have hm1:=q4.m1;have hlen:=q4.len;have hll:=q2.len;have hsite:s.Site.Gates=(m:Int):=by rw [q4.site]
 obtain ⟨A,B,t1,t2,t3,t4⟩:=A31 hgd (F:=F) (by omega);obtain ⟨i,hi⟩:∃i:Nat,ray%((4*r:Nat):Int)=i:=⟨(ray%((4*r:Nat):Int)).toNat,(Int.toNat_of_nonneg (Int.emod_nonneg _ (by omega))).symm⟩;obtain ⟨k,hk⟩:∃k:Nat,gate%(m:Int)=k:=⟨(gate%(m:Int)).toNat,(Int.toNat_of_nonneg (Int.emod_nonneg _ (by omega))).symm⟩;obtain ⟨c,hc⟩:∃c:Nat,shift%((4*r:Nat):Int)=c:=⟨(shift%((4*r:Nat):Int)).toNat,(Int.toNat_of_nonneg (Int.emod_nonneg _ (by omega))).symm⟩;have hi2:i<4*r:=by have:=Int.emod_lt_of_pos ray (show (0:Int)<(4*r:Nat) by omega);omega
 have hk2:k<m:=by have:=Int.emod_lt_of_pos gate (show (0:Int)<m by omega);omega
 have hc2:c<4*r:=by have:=Int.emod_lt_of_pos shift (show (0:Int)<(4*r:Nat) by omega);omega
 obtain ⟨M,m1,m2,m3⟩:=A2o q4 q6 t2 t3 hi2 hk2 shift (rl L,p') (F:=F) (by omega);have hmx:=m1.swp;have hsw:=q4.swp;have hK:(0:Int)≤((i*m+k:Nat):Int)∧((i*m+k:Nat):Int)<((4*r*m:Nat):Int):=by
  have h1:(i+1)*m≤4*r*m:=Nat.mul_le_mul_right m (by omega);rw [Nat.add_mul] at h1;omega
 have hKd:((i*m+k:Nat):Int)/(m:Int)=i:=by rw [Int.natCast_add,Int.natCast_mul];exact Xn (by omega) (by omega)
 have hKm:((i*m+k:Nat):Int)%(m:Int)=k:=by rw [Int.natCast_add,Int.natCast_mul];exact Xo (by omega) (by omega)
 have v1:jv ((i*m+k:Nat):Int) (Mr ⟨s.Site,s.Tilt,s.Time,M⟩ L) 0 []=jv ((i*m+k:Nat):Int) (Mr s L) 0 []:=by
  refine A0h L 0 [] fun p hp=>?_;rw [A4i hsw hmx rfl p.2 true (hok p hp) _ hK fun o ho hnr=>?_];obtain ⟨f1,f2⟩:=t4 p hp;obtain ⟨n1,n2,d,d1,d2,d3⟩:=hnr.mono (y:=(A,B)) f1 f2;obtain ⟨z1,z2,z3,z4⟩:=km hm1.1 ho;rw [hKm] at n1 n2;rw [hKd] at d3;obtain ⟨x,hx⟩:∃x:Nat,o/(m:Int)=x:=⟨(o/(m:Int)).toNat,(Int.toNat_of_nonneg z1).symm⟩;obtain ⟨y,hy⟩:∃y:Nat,o%(m:Int)=y:=⟨(o%(m:Int)).toNat,(Int.toNat_of_nonneg z3).symm⟩;rw [hx] at z2 d3;rw [hy] at z4 n1 n2;have:=m2 x y (by omega) (by omega) ⟨A6f (by omega) d1 d2 d3,by dsimp only at n2;omega,by dsimp only at n1;omega⟩;unfold Qq;dsimp only;rw [hsite,hx,hy,Int.toNat_natCast,Int.toNat_natCast,this]
 have hto:Okw ⟨s.Site,s.Tilt,s.Time,s.Rays.drop c++s.Rays.take c⟩ r m:=by
  refine ⟨q4.site,q4.r1,q4.m1,q4.time,q4.tilt,by dsimp only;simp;omega,fun l hl=>?_⟩;rcases List.mem_append.1 hl with hl|hl
  ·exact q4.rows l (List.mem_of_mem_drop hl)
  ·exact q4.rows l (List.mem_of_mem_take hl)
 have v2:(Pd s (4*r) m L).drop c++(Pd s (4*r) m L).take c=Pd ⟨s.Site,s.Tilt,s.Time,s.Rays.drop c++s.Rays.take c⟩ (4*r) m L:=by
  apply List.ext_getElem?;intro b
  by_cases hb:b<4*r
  ·rw [A0j (K7 ..) hc2 hb,U6 (Nat.mod_lt _ (by omega)),U6 hb]
   congr 1
   apply List.map_congr_left;intro j hj;have hj:=List.mem_range.1 hj;refine A0h L 0 [] fun p hp=>?_;have hK2:(0:Int)≤((b*m+j:Nat):Int)∧((b*m+j:Nat):Int)<((4*r*m:Nat):Int):=by
    have h1:(b+1)*m≤4*r*m:=Nat.mul_le_mul_right m (by omega);rw [Nat.add_mul] at h1;omega
   have hd:((b*m+j:Nat):Int)/(m:Int)=b:=by rw [Int.natCast_add,Int.natCast_mul];exact Xn (by omega) (by omega)
   have hm:((b*m+j:Nat):Int)%(m:Int)=j:=by rw [Int.natCast_add,Int.natCast_mul];exact Xo (by omega) (by omega)
   rw [(A37 hsw hto.swp rfl (c:=c) (fun o ho=>?_) p.2 true (hok p hp) ((q2.trees p hp).ray rfl) _ hK2).1 rfl]
   ·unfold tn;rw [hd,hm,Int.natCast_add,Int.natCast_mul,Int.natCast_emod,Int.natCast_add]
   ·obtain ⟨z1,z2,z3,z4⟩:=km hm1.1 ho;unfold Qq;dsimp only;rw [hsite,Xx (by omega),Ts (by omega)];obtain ⟨x,hx⟩:∃x:Nat,o/(m:Int)=x:=⟨(o/(m:Int)).toNat,(Int.toNat_of_nonneg z1).symm⟩;rw [hx,Int.toNat_natCast,A0j hlen hc2 (by omega),←Int.natCast_add,←Int.natCast_emod,Int.toNat_natCast]
  ·rw [List.getElem?_eq_none (by simp [K7];omega),List.getElem?_eq_none (by rw [K7];omega)]
 obtain ⟨b1,b2⟩:=Vy s (R:=4*r) (m:=m) (L:=L) (by omega) (by omega) (by omega);obtain ⟨b3,b4⟩:=Vy ⟨s.Site,s.Tilt,s.Time,s.Rays.drop c++s.Rays.take c⟩ (R:=4*r) (m:=m) (L:=L) (by omega) (by omega) (by omega);have g1:=U6 (s:=s) (m:=m) (L:=L) hi2;have g2:=U6 (s:=⟨s.Site,s.Tilt,s.Time,M⟩) (m:=m) (L:=L) hi2;have g3:((List.range m).map fun j=>jv ((i*m+j:Nat):Int) (Mr s L) 0 [])[k]? = some (jv ((i*m+k:Nat):Int) (Mr s L) 0 []):=by simp [hk2]
 have g4:((List.range m).map fun j=>jv ((i*m+j:Nat):Int) (Mr ⟨s.Site,s.Tilt,s.Time,M⟩ L) 0 [])[k]? = some (jv ((i*m+k:Nat):Int) (Mr s L) 0 []):=by rw [←v1];simp [hk2]
 have hd:(jv ((i*m+k:Nat):Int) (Mr s L) 0 []).Doubts.length≤1000:=by have:=A2n ((i*m+k:Nat):Int) (Mr s L) 0 [];simp [Mr] at this ⊢;omega
 unfold K8;rw [q1,sbd,q3,sbd,q5,sbd];dsimp only;rw [t1,sbd];dsimp only;rw [Ao (Xl (Xl (neF rfl) (dF (by omega))) (dF (by omega))),ckb (by omega),hlen,Ro hr.1 (by omega),ckb (by omega),hsite,Ro hg.1 (by omega),hi,hk,m3];unfold Ew;dsimp only;rw [ckb (by omega),hlen,Ro hsh.1 (by omega),hc,
  show Ma s.Rays (c:Int) ((4*r:Nat):Int)=some (s.Rays.drop c) by
   unfold Ma;rw [if_pos (by omega),Int.toNat_natCast,Int.toNat_natCast,List.take_of_length_le (by simp;omega)],sbd,
  show Ma s.Rays 0 (c:Int)=some (s.Rays.take c) by
   unfold Ma;rw [if_pos (by omega)];simp,sbd,
  show apd 24 ([]:List (List api_Echo)) (s.Rays.drop c)=some (s.Rays.drop c) by unfold apd;rw [if_pos (by simp;omega)];rfl,sbd,
  show apd 24 (s.Rays.drop c) (s.Rays.take c)=some (s.Rays.drop c++s.Rays.take c) by unfold apd;rw [if_pos (by simp;omega)],sbd,
  Vz hsw hgd (by omega) (q4.check (by omega)),sbd,Vz hmx hgd (by omega) (m1.check (by omega)),sbd,Vz hto.swp hgd (by omega) (hto.check (by omega)),sbd]
 dsimp only;rw [K7,K7,K7,Ao (Xl (Xl (Xl (Xl (Xl (neF rfl) (neF rfl)) (neF rfl)) (neF rfl)) (neF rfl)) (neF rfl)),D9 i _ rfl g1,D9 k _ rfl g3,D9 i _ rfl g2,D9 k _ rfl g4,Ao (neF rfl),D9 i _ rfl g1,D9 k _ rfl g3,D9 i _ rfl g2,D9 k _ rfl g4,W4 _ hd (by omega),sbd,Ao (Xl (y:=!true) (neF rfl) rfl),
  show Ma (Pd s (4*r) m L) (c:Int) ((4*r:Nat):Int)=some ((Pd s (4*r) m L).drop c) by
   unfold Ma;rw [if_pos (by rw [K7];omega),Int.toNat_natCast,Int.toNat_natCast,List.take_of_length_le (by simp [K7])],sbd,
  show Ma (Pd s (4*r) m L) 0 (c:Int)=some ((Pd s (4*r) m L).take c) by
   unfold Ma;rw [if_pos (by rw [K7];omega)];simp,sbd,
  show apd 24 ([]:List (List sift_Verdict)) ((Pd s (4*r) m L).drop c)=some ((Pd s (4*r) m L).drop c) by unfold apd;rw [if_pos (by simp [K7];omega)];rfl,sbd,
  show apd 24 ((Pd s (4*r) m L).drop c) ((Pd s (4*r) m L).take c)=some ((Pd s (4*r) m L).drop c++(Pd s (4*r) m L).take c) by unfold apd;rw [if_pos (by simp [K7];omega)],sbd,v2,Yz _ b3 b4 (by omega),sbd,Bf rfl,hw]
 rfl
end Go.Proofs.YtkjnafecmjakcaaGreatDoor
