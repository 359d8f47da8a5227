import Derived.Test.YtkjnafecmjakcaaGreatDoorS4XD
set_option linter.unusedVariables false
set_option linter.unusedSimpArgs false
set_option linter.unusedSectionVars false
namespace Go.Proofs.YtkjnafecmjakcaaGreatDoor
open Go Go.RowKit Go.Eng
set_option maxRecDepth 10000
set_option linter.unusedVariables false
set_option linter.unusedSimpArgs false
theorem ckb {β:Type} {x:Int} {f:Int→Option β} (h:-9000000000000000000≤x∧x≤9000000000000000000):(ck x).bind f=f x:=by
 unfold ck;rw [if_pos (by omega)];rfl
theorem gdT {α:Type} {g:Bool} {o:Option α} {d:α} (h:g=true):gd g o d=o:=by subst h;rfl
theorem gdF {α:Type} {g:Bool} {o:Option α} {d:α} (h:g=false):gd g o d=some d:=by subst h;rfl
theorem Bf {α:Type} {c:Bool} {x y:α} (h:c=true):(bif c then x else y)=x:=by rw [h];rfl
theorem Ao {α:Type} {c:Bool} {x y:α} (h:c=false):(bif c then x else y)=y:=by rw [h];rfl
theorem sbd {α β:Type} {x:α} {f:α→Option β}:(some x).bind f=f x:=rfl
theorem dT {p:Prop} [Decidable p] (h:p):decide p=true:=decide_eq_true h
theorem dF {p:Prop} [Decidable p] (h:¬p):decide p=false:=decide_eq_false h
theorem Fi {α β:Type} {l:List α} {i:Int} {f:α→Option β} (n:Nat) (x:α) (hi:i=(n:Int)) (h:l[n]? = some x):(Au l i).bind f=f x:=by
 subst hi;unfold Au;rw [if_pos (by omega),show ((n:Int)).toNat=n by omega,h];rfl
theorem Wq {α β:Type} {x:α} {l:List α} {f:α→Option β}:(Au (x::l) 0).bind f=f x:=Fi 0 x rfl rfl
theorem A3y {α β:Type} {x y:α} {l:List α} {f:α→Option β}:(Au (x::y::l) 1).bind f=f y:=Fi 1 y rfl rfl
inductive T where
 | leaf (op v:Int)
 | un (op r g:Int) (a:T)
 | bin (op:Int) (a b:T)
 deriving DecidableEq,Inhabited
def T.op:T→Int
 | .leaf op _=>op
 | .un op _ _ _=>op
 | .bin op _ _=>op
def T.node:T→sift_Node
 | .leaf op v=>⟨op,v,0,0,[]⟩
 | .un op r g a=>⟨op,0,r,g,[a.node]⟩
 | .bin op a b=>⟨op,0,0,0,[a.node,b.node]⟩
def T.size:T→Nat
 | .leaf _ _=>1
 | .un _ _ _ a=>1+a.size
 | .bin _ a b=>1+a.size+b.size
def T.depth:T→Nat
 | .leaf _ _=>1
 | .un _ _ _ a=>1+a.depth
 | .bin _ a b=>1+max a.depth b.depth
theorem A4a (t:T):t.node.Op=t.op:=by cases t<;>rfl
def okT:Bool→T→Prop
 | true,.leaf op v=>(op=1∨op=2)∧v=0
 | false,.leaf op v=>(op=14∧0≤v∧v≤1000000000)∨(15≤op∧op≤24∧v=0)
 | true,.un op r g a=>((op=3∧r=0∧g=0)∨((op=6∨op=7)∧0≤r∧r≤3∧0≤g∧g≤3))∧okT true a
 | false,.un op r g a=>(op=25∧0≤r∧r≤3∧0≤g∧g≤3)∧okT true a
 | true,.bin op a b=>((op=4∨op=5)∧okT true a∧okT true b)∨(8≤op∧op≤13∧okT false a∧okT false b)
 | false,.bin op a b=>(op=26∨op=27)∧okT false a∧okT false b∧b.op<26
theorem okT.kind:∀{t:T} {k:Bool},okT k t→sift_isCondition t.node=k∧sift_isValue t.node=!k:=by
 intro t k h;have key:∀op:Int,(k=true→1≤op∧op≤13)→(k=false→14≤op∧op≤27)→t.node.Op=op→sift_isCondition t.node=k∧sift_isValue t.node=!k:=by
  intro op h1 h2 h3;unfold sift_isCondition sift_isValue;rw [h3]
  cases k
  ·obtain ⟨a,b⟩:=h2 rfl;refine ⟨?_,?_⟩
   ·by_cases hc:op≥1
    ·rw [Bf (dT hc)];exact dF (by omega)
    ·rw [Ao (dF hc)]
   ·rw [Bf (dT (by omega))];exact dT (by omega)
  ·obtain ⟨a,b⟩:=h1 rfl;refine ⟨?_,?_⟩
   ·rw [Bf (dT (by omega))];exact dT (by omega)
   ·rw [Ao (dF (by omega))];rfl
 cases t with
 | leaf op v=>cases k<;>simp only [okT] at h<;>exact key op (fun e=>by cases e<;>omega) (fun e=>by cases e<;>omega) rfl
 | un op r g a=>cases k<;>simp only [okT] at h<;>exact key op (fun e=>by cases e<;>omega) (fun e=>by cases e<;>omega) rfl
 | bin op a b=>cases k<;>simp only [okT] at h<;>exact key op (fun e=>by cases e<;>omega) (fun e=>by cases e<;>omega) rfl
end Go.Proofs.YtkjnafecmjakcaaGreatDoor
namespace Go.Proofs.YtkjnafecmjakcaaGreatDoor
open Go Go.RowKit Go.Eng
set_option maxRecDepth 10000
set_option linter.unusedVariables false
set_option linter.unusedSimpArgs false
theorem T.size_pos (t:T):1≤t.size:=by cases t<;>simp only [T.size]<;>omega
theorem T.depth_le (t:T):t.depth≤t.size:=by
 induction t with
 | leaf op v=>simp only [T.depth,T.size];omega
 | un op r g a ih=>simp only [T.depth,T.size];omega
 | bin op a b iha ihb=>simp only [T.depth,T.size];omega
theorem Uw (F:Nat) (p:sift_Node) (m:Int):Ek (F+1) p m=Co (Ek F) p m F 0 1:=rfl
theorem A6s {self_:sift_Node→Int→Option Int} {p:sift_Node} {m x y:Int} {n:Nat}:Co self_ p m (n+1) x y=Gu self_ p m (Co self_ p m n) x y:=rfl
theorem Ze {self_:sift_Node→Int→Option Int} {p u:sift_Node} {m x y z:Int} {n i:Nat} (hx:x=(i:Int)) (hi:p.Args[i]? = some u) (hl:p.Args.length≤2) (hm:y≤m) (hm2:0≤y∧m≤1000000) (hz:self_ u (m-y)=some z) (hz2:0≤z∧z≤1000000) :
  Co self_ p m (n+1) x y=Co self_ p m n (x+1) (y+z):=by
 have hlt:=(List.getElem?_eq_some_iff.1 hi).1;rw [A6s,Gu,Bf (dT (by omega)),Fi i u hx hi,Ao (dF (by omega)),ckb (by omega),hz,sbd,ckb (by omega),ckb (by omega)]
theorem Xr {self_:sift_Node→Int→Option Int} {p:sift_Node} {m x y:Int} {n:Nat} (hx:(p.Args.length:Int)≤x):Co self_ p m (n+1) x y=some y:=by
 rw [A6s,Gu,Ao (dF (by omega))];rfl
theorem W3:∀(t:T) (F:Nat) (m:Int),t.size+4≤F→(t.size:Int)≤m→m≤1000000→Ek F t.node m=some (t.size:Int):=by
 intro t
 induction t with
 | leaf op v =>
  intro F m hF h1 h2;obtain ⟨F,rfl⟩:∃G,F=G+2:=⟨F-2,by simp only [T.size] at hF;omega⟩;rw [Uw];exact Xr (Int.le_refl _)
 | un op r g a ih =>
  intro F m hF h1 h2;simp only [T.size] at hF h1;have:=a.size_pos;obtain ⟨F,rfl⟩:∃G,F=G+3:=⟨F-3,by omega⟩;rw [Uw];rw [Ze (p:=(T.un op r g a).node) (x:=0) (y:=1) (i:=0) (u:=a.node) rfl rfl (by simp [T.node]) (by omega) (by omega) (ih (F+2) (m-1) (by omega) (by omega) (by omega)) (by omega),Xr (by simp [T.node])];simp only [T.size];congr 1
 | bin op a b iha ihb =>
  intro F m hF h1 h2;simp only [T.size] at hF h1;have:=a.size_pos;have:=b.size_pos;obtain ⟨F,rfl⟩:∃G,F=G+4:=⟨F-4,by omega⟩;rw [Uw];rw [Ze (p:=(T.bin op a b).node) (x:=0) (y:=1) (i:=0) (u:=a.node) rfl rfl (by simp [T.node]) (by omega) (by omega) (iha (F+3) (m-1) (by omega) (by omega) (by omega)) (by omega),
   Ze (p:=(T.bin op a b).node) (x:=0+1) (i:=1) (u:=b.node) rfl rfl (by simp [T.node]) (by omega) (by omega) (ihb (F+3) (m-(1+a.size)) (by omega) (by omega) (by omega)) (by omega),Xr (by simp [T.node])]
  simp only [T.size];congr 1
theorem Zh (F:Nat) (p:sift_Node):Ju (F+1) p=El (Ju F) p F 0 0:=rfl
theorem dpL {self_:sift_Node→Option Int} {p:sift_Node} {x y:Int} {n:Nat}:El self_ p (n+1) x y=L1 self_ p (El self_ p n) x y:=rfl
theorem A2f {self_:sift_Node→Option Int} {p u:sift_Node} {x y z:Int} {n i:Nat} (hy:y=(i:Int)) (hi:p.Args[i]? = some u) (hl:p.Args.length≤2) (hz:self_ u=some z) :
  El self_ p (n+1) x y=El self_ p n (if z>x then z else x) (y+1):=by
 have hlt:=(List.getElem?_eq_some_iff.1 hi).1;rw [dpL,L1,Bf (dT (by omega)),Fi i u hy hi,hz,sbd,ckb (by omega)]
theorem Zi {self_:sift_Node→Option Int} {p:sift_Node} {x y:Int} {n:Nat} (hy:(p.Args.length:Int)≤y) (hx:-9000000000≤x∧x≤9000000000):El self_ p (n+1) x y=some (x+1):=by
 rw [dpL,L1,Ao (dF (by omega)),P8,ckb (by omega)]
theorem A0f:∀(t:T) (F:Nat),t.depth+4≤F→t.depth≤1000000→Ju F t.node=some (t.depth:Int):=by
 intro t
 induction t with
 | leaf op v =>
  intro F hF h1;obtain ⟨F,rfl⟩:∃G,F=G+2:=⟨F-2,by simp only [T.depth] at hF;omega⟩;rw [Zh];exact Zi (Int.le_refl _) (by omega)
 | un op r g a ih =>
  intro F hF h1;simp only [T.depth] at hF h1;obtain ⟨F,rfl⟩:∃G,F=G+3:=⟨F-3,by omega⟩;rw [Zh];rw [A2f (p:=(T.un op r g a).node) (y:=0) (i:=0) (u:=a.node) rfl rfl (by simp [T.node]) (ih (F+2) (by omega) (by omega)),Zi (by simp [T.node]) (by split<;>omega)];simp only [T.depth];congr 1;split<;>omega
 | bin op a b iha ihb =>
  intro F hF h1;simp only [T.depth] at hF h1;obtain ⟨F,rfl⟩:∃G,F=G+4:=⟨F-4,by omega⟩;rw [Zh];rw [A2f (p:=(T.bin op a b).node) (y:=0) (i:=0) (u:=a.node) rfl rfl (by simp [T.node]) (iha (F+3) (by omega) (by omega)),A2f (p:=(T.bin op a b).node) (y:=0+1) (i:=1) (u:=b.node) rfl rfl (by simp [T.node]) (ihb (F+3) (by omega) (by omega)),Zi (by simp [T.node]) (by split<;>split<;>omega)];simp only [T.depth];congr 1;split<;>split<;>omega
structure StL (self_:sift_Node→Option Bool) (p:sift_Node) (k:Bool) (L:Nat→Int→Option Bool):Prop where
 go:∀n (i:Nat) u,p.Args[i]? = some u→p.Args.length≤2→sift_isCondition u=k→sift_isValue u=!k→self_ u=some true→L (n+1) (i:Int)=L n ((i:Int)+1)
 fin:∀n x,(p.Args.length:Int)≤x→p.Op<26→L (n+1) x=some true
 fin2:∀n x u,(p.Args.length:Int)≤x→26≤p.Op→p.Args[1]? = some u→u.Op<26→L (n+1) x=some true
theorem A7i {self_:sift_Node→Option Bool} {p:sift_Node}:StL self_ p true (Kn self_ p):=by
 refine ⟨fun n i u hi hl h1 h2 h3=>?_,fun n x hx ho=>?_,fun n x u hx ho hu hu2=>?_⟩
 ·have hlt:=(List.getElem?_eq_some_iff.1 hi).1;show Dx self_ p _ _=_;rw [Dx,Bf (dT (by omega)),Fi i u rfl hi,h1,gdT (g:=(!true)==false&&true) rfl,h3,sbd,Ao (c:=bif (!true) then true else (!true)) rfl,ckb (by omega)]
 ·show Dx self_ p _ _=_;rw [Dx,Ao (dF (by omega)),Kj,Bf (dT ho)]
 ·show Dx self_ p _ _=_;rw [Dx,Ao (dF (by omega)),Kj,Ao (dF (by omega)),Fi (i:=1) 1 u rfl hu,dT hu2]
theorem A7j {self_:sift_Node→Option Bool} {p:sift_Node}:StL self_ p true (Ko self_ p):=by
 refine ⟨fun n i u hi hl h1 h2 h3=>?_,fun n x hx ho=>?_,fun n x u hx ho hu hu2=>?_⟩
 ·have hlt:=(List.getElem?_eq_some_iff.1 hi).1;show Dy self_ p _ _=_;rw [Dy,Bf (dT (by omega)),Fi i u rfl hi,h1,gdT (g:=(!true)==false&&true) rfl,h3,sbd,Ao (c:=bif (!true) then true else (!true)) rfl,ckb (by omega)]
 ·show Dy self_ p _ _=_;rw [Dy,Ao (dF (by omega)),Kk,Bf (dT ho)]
 ·show Dy self_ p _ _=_;rw [Dy,Ao (dF (by omega)),Kk,Ao (dF (by omega)),Fi (i:=1) 1 u rfl hu,dT hu2]
theorem A7k {self_:sift_Node→Option Bool} {p:sift_Node}:StL self_ p true (Kp self_ p):=by
 refine ⟨fun n i u hi hl h1 h2 h3=>?_,fun n x hx ho=>?_,fun n x u hx ho hu hu2=>?_⟩
 ·have hlt:=(List.getElem?_eq_some_iff.1 hi).1;show Dz self_ p _ _=_;rw [Dz,Bf (dT (by omega)),Fi i u rfl hi,h1,gdT (g:=(!true)==false&&true) rfl,h3,sbd,Ao (c:=bif (!true) then true else (!true)) rfl,ckb (by omega)]
 ·show Dz self_ p _ _=_;rw [Dz,Ao (dF (by omega)),Kl,Bf (dT ho)]
 ·show Dz self_ p _ _=_;rw [Dz,Ao (dF (by omega)),Kl,Ao (dF (by omega)),Fi (i:=1) 1 u rfl hu,dT hu2]
theorem A7l {self_:sift_Node→Option Bool} {p:sift_Node}:StL self_ p false (Kq self_ p):=by
 refine ⟨fun n i u hi hl h1 h2 h3=>?_,fun n x hx ho=>?_,fun n x u hx ho hu hu2=>?_⟩
 ·have hlt:=(List.getElem?_eq_some_iff.1 hi).1;show E0 self_ p _ _=_;rw [E0,Bf (dT (by omega)),Fi i u rfl hi,h2,gdT (g:=(!!false)==false&&true) rfl,h3,sbd,Ao (c:=bif (!!false) then true else (!true)) rfl,ckb (by omega)]
 ·show E0 self_ p _ _=_;rw [E0,Ao (dF (by omega)),Km,Bf (dT ho)]
 ·show E0 self_ p _ _=_;rw [E0,Ao (dF (by omega)),Km,Ao (dF (by omega)),Fi (i:=1) 1 u rfl hu,dT hu2]
theorem A1q {g r v:Int} (hg:0≤g) (hr:0≤r) (hv:0≤v):¬(if g<if r<v then r else v then g else if r<v then r else v)<0:=by split<;>split<;>omega
theorem A1p {g r m:Int} (hg:g≤m) (hr:r≤m):¬(if g>r then g else r)>m:=by split<;>omega
theorem eqT {a b:Int} (h:a=b):(a==b)=true:=by subst h;exact beq_self_eq_true _
theorem eqF {a b:Int} (h:a≠b):(a==b)=false:=beq_eq_false_iff_ne.2 h
theorem neF {a b:Int} (h:a=b):(a != b)=false:=by subst h;simp
theorem neT {a b:Int} (h:a≠b):(a != b)=true:=by simp [h]
theorem Xk:∀(t:T) (k:Bool) (F:Nat),okT k t→t.size+5≤F→Da F t.node=some true:=by
 intro t
 induction t with
 | leaf op v =>
  intro k F h hF;obtain ⟨F,rfl⟩:∃G,F=G+2:=⟨F-2,by simp only [T.size] at hF;omega⟩;have hk:=h.kind;show Er (F+1) (Da (F+1)) ⟨op,v,0,0,[]⟩=_;have h3:op≠3∧op≠4∧op≠5∧op≠6∧op≠7∧op≠25∧op≠26∧op≠27∧¬(8≤op∧op≤13)∧op<26∧0≤v∧(op=14→v≤1000000000)∧(op≠14→v=0):=by
   cases k<;>simp only [okT] at h<;>refine ⟨?_,?_,?_,?_,?_,?_,?_,?_,?_,?_,?_,?_,?_⟩<;>omega
  obtain ⟨a1,a2,a3,a4,a5,a6,a7,a8,a9,a10,a11,a12,a13⟩:=h3;have e8:(bif decide (op≥8) then decide (op≤13) else false)=false:=by
   by_cases hc:op≥8
   ·rw [Bf (dT hc)];exact dF (by omega)
   ·rw [Ao (dF hc)]
  have hL:(([]:List sift_Node).length:Int)=0:=rfl;unfold Er;dsimp only;rw [Ao (eqF a1),eqF a2,eqF a3,Ao (c:=false) rfl,Ao (c:=false) rfl,eqF a4,eqF a5,eqF a6,Ao (c:=false) rfl,Ao (c:=false) rfl,Ao (c:=false) rfl,e8,eqF a7,eqF a8,Ao (c:=false) rfl,Ao (c:=false) rfl,Ao (c:=false) rfl]
  by_cases h14:op=14
  ·rw [Bf (eqT h14),hL,neF rfl,Ao (c:=false) rfl,dF (A1q (Int.le_refl 0) (Int.le_refl 0) a11),Ao (c:=false) rfl,dF (show ¬v>1000000000 by have:=a12 h14;omega),Ao (c:=false) rfl,dF (A1p (Int.le_refl 0) (Int.le_refl 0)),Ao (c:=false) rfl];show Jp _ _ _ _=_;rw [Jp,Ao (dF (by simp)),Mo,Bf (dT a10)]
  ·have hv:=a13 h14;subst hv;rw [Ao (eqF h14)];have e9:(bif (!(sift_isCondition ⟨op,0,0,0,[]⟩)) then (!(sift_isValue ⟨op,0,0,0,[]⟩)) else false)=false:=by
    have h1:sift_isCondition ⟨op,0,0,0,[]⟩=k:=hk.1;have h2:sift_isValue ⟨op,0,0,0,[]⟩=!k:=hk.2;rw [h1,h2];cases k<;>rfl
   rw [Ao e9,hL,neF rfl,Ao (c:=false) rfl,dF (A1q (Int.le_refl 0) (Int.le_refl 0) (Int.le_refl 0)),Ao (c:=false) rfl,dF (show ¬(0:Int)>0 by omega),Ao (c:=false) rfl,dF (A1p (Int.le_refl 0) (Int.le_refl 0)),Ao (c:=false) rfl];show Jq _ _ _ _=_;rw [Jq,Ao (dF (by simp)),Lt,Bf (dT a10)]
 | un op r g a ih =>
  intro k F h hF;simp only [T.size] at hF;have:=a.size_pos;obtain ⟨F,rfl⟩:∃G,F=G+3:=⟨F-3,by omega⟩;show Er (F+2) (Da (F+2)) ⟨op,0,r,g,[a.node]⟩=_;have ha:okT true a:=by cases k<;>simp only [okT] at h<;>exact h.2
  have hs:=ih true (F+2) ha (by omega);have hk:=ha.kind;have hL:(([a.node]:List sift_Node).length:Int)=1:=rfl;have fin:∀(L:Nat→Int→Option Bool),StL (Da (F+2)) ⟨op,0,r,g,[a.node]⟩ true L→op<26→L (F+2) 0=some true:=fun L hLL ho=>by
   have h1:=hLL.go (F+1) 0 a.node rfl (by simp) hk.1 hk.2 hs;have h2:=hLL.fin F ((0:Nat)+1:Int) (by simp) ho;exact h1.trans h2
  unfold Er;dsimp only
  by_cases h3:op=3
  ·have hrg:r=0∧g=0:=by cases k<;>simp only [okT] at h<;>omega
   obtain ⟨rfl,rfl⟩:=hrg;rw [Bf (eqT h3),hL,neF rfl,Ao (c:=false) rfl,dF (A1q (Int.le_refl 0) (Int.le_refl 0) (Int.le_refl 0)),Ao (c:=false) rfl,dF (show ¬(0:Int)>0 by omega),Ao (c:=false) rfl,dF (A1p (Int.le_refl 0) (Int.le_refl 0)),Ao (c:=false) rfl];exact fin _ A7i (by omega)
  ·have hop:(op=6∨op=7∨op=25)∧0≤r∧r≤3∧0≤g∧g≤3:=by cases k<;>simp only [okT] at h<;>omega
   obtain ⟨hop,r1,r2,g1,g2⟩:=hop;have e6:(bif (bif (op==6) then true else (op==7)) then true else (op==25))=true:=by
    rcases hop with rfl|rfl|rfl<;>rfl
   rw [Ao (eqF h3),eqF (show op≠4 by omega),eqF (show op≠5 by omega),Ao (c:=false) rfl,Ao (c:=false) rfl,Bf e6,hL,neF rfl,Ao (c:=false) rfl,dF (A1q g1 r1 (Int.le_refl 0)),Ao (c:=false) rfl,dF (show ¬(0:Int)>0 by omega),Ao (c:=false) rfl,dF (A1p g2 r2),Ao (c:=false) rfl];exact fin _ A7k (by omega)
 | bin op a b iha ihb =>
  intro k F h hF;simp only [T.size] at hF;have:=a.size_pos;have:=b.size_pos;obtain ⟨F,rfl⟩:∃G,F=G+4:=⟨F-4,by omega⟩;show Er (F+3) (Da (F+3)) ⟨op,0,0,0,[a.node,b.node]⟩=_;have hL:(([a.node,b.node]:List sift_Node).length:Int)=2:=rfl;have fin:∀(q:Bool) (L:Nat→Int→Option Bool),StL (Da (F+3)) ⟨op,0,0,0,[a.node,b.node]⟩ q L→okT q a→okT q b→(26≤op→b.op<26)→L (F+3) 0=some true:=fun q L hLL ha hb ho=>by
   have h1:=hLL.go (F+2) 0 a.node rfl (by simp) ha.kind.1 ha.kind.2 (iha q (F+3) ha (by omega));have h2:=hLL.go (F+1) 1 b.node rfl (by simp) hb.kind.1 hb.kind.2 (ihb q (F+3) hb (by omega));have h3:L (F+1) ((1:Nat)+1:Int)=some true:=by
    by_cases hc:op<26
    ·exact hLL.fin F _ (by simp) hc
    ·exact hLL.fin2 F _ b.node (by simp) (by show 26≤op;omega) rfl (by rw [A4a];exact ho (by omega))
   exact h1.trans (h2.trans h3)
  unfold Er;dsimp only;have h3:op≠3:=by cases k<;>simp only [okT] at h<;>omega
  rw [Ao (eqF h3)]
  by_cases h4:op=4∨op=5
  ·have hab:okT true a∧okT true b:=by
    cases k<;>simp only [okT] at h
    ·omega
    ·rcases h with h|h
     ·exact h.2
     ·omega
   have e4:(bif (op==4) then true else (op==5))=true:=by rcases h4 with rfl|rfl<;>rfl
   rw [Bf e4,hL,neF rfl,Ao (c:=false) rfl,dF (A1q (Int.le_refl 0) (Int.le_refl 0) (Int.le_refl 0)),Ao (c:=false) rfl,dF (show ¬(0:Int)>0 by omega),Ao (c:=false) rfl,dF (A1p (Int.le_refl 0) (Int.le_refl 0)),Ao (c:=false) rfl];exact fin true _ A7j hab.1 hab.2 (by omega)
  ·have hab:okT false a∧okT false b∧(26≤op→b.op<26)∧(8≤op∧op≤13∨op=26∨op=27):=by
    cases k<;>simp only [okT] at h
    ·exact ⟨h.2.1,h.2.2.1,fun _=>h.2.2.2,by omega⟩
    ·rcases h with h|h
     ·omega
     ·exact ⟨h.2.2.1,h.2.2.2,by omega,by omega⟩
   obtain ⟨ha,hb,ho,hop⟩:=hab;have e8:(bif (bif (bif decide (op≥8) then decide (op≤13) else false) then true else (op==26)) then true else (op==27))=true:=by
    rcases hop with ⟨h1,h2⟩|rfl|rfl
    ·rw [dT h1,dT h2];rfl
    ·rfl
    ·rfl
   rw [eqF (show op≠4 by omega),eqF (show op≠5 by omega),Ao (c:=false) rfl,Ao (c:=false) rfl,eqF (show op≠6 by omega),eqF (show op≠7 by omega),eqF (show op≠25 by omega),Ao (c:=false) rfl,Ao (c:=false) rfl,Ao (c:=false) rfl,Bf e8,hL,neF rfl,Ao (c:=false) rfl,dF (A1q (Int.le_refl 0) (Int.le_refl 0) (Int.le_refl 0)),Ao (c:=false) rfl,dF (show ¬(0:Int)>0 by omega),Ao (c:=false) rfl,dF (A1p (Int.le_refl 0) (Int.le_refl 0)),Ao (c:=false) rfl];exact fin false _ A7l ha hb ho
end Go.Proofs.YtkjnafecmjakcaaGreatDoor
namespace Go.Proofs.YtkjnafecmjakcaaGreatDoor
open Go Go.RowKit Go.Eng
set_option maxRecDepth 10000
set_option linter.unusedVariables false
set_option linter.unusedSimpArgs false
def tb (l:List UInt8):ByteArray:=⟨l.toArray⟩
theorem A6i (a b:List UInt8):tb a++tb b=tb (a++b):=by
 apply ByteArray.ext;show (tb a++tb b).data=_;rw [ByteArray.data_append];simp [tb]
theorem A0w (a:List UInt8):(tb a).size=a.length:=by simp [tb,ByteArray.size]
theorem A3e {a b:List UInt8} (h:tb a=tb b):a=b:=by
 have:=congrArg (fun x:ByteArray=>x.data.toList) h
 simpa [tb] using this
theorem U3 {β:Type} {a b:List UInt8} {f:ByteArray→Option β} (h:a.length+b.length≤9000000000):(P6 (tb a) (tb b)).bind f=f (tb (a++b)):=by
 unfold P6;rw [if_pos (by rw [A0w,A0w];omega),sbd,A6i]
def wd (op:Int):List UInt8:=((C2.1[op.toNat]?).getD ⟨#[]⟩).data.toList
theorem wdb {β:Type} {op:Int} {f:ByteArray→Option β} (h:0≤op∧op≤27):(Xv C2 op).bind f=f (tb (wd op)):=by
 unfold Xv;have hl:op.toNat<C2.1.length:=by rw [C2.2];omega
 rw [Fi op.toNat (C2.1[op.toNat]) (by omega) (List.getElem?_eq_getElem hl)];unfold wd;rw [List.getElem?_eq_getElem hl]
 congr 1
def textT:T→List UInt8
 | .leaf op v=>if op=14 then Lib.itoa v else wd op
 | .un op r g a=>if op=3 then wd 3++(32::textT a) else wd op++(32::(Lib.itoa r++(32::(Lib.itoa g++(32::textT a)))))
 | .bin op a b=>if op<14 then 40::(textT a++(32::(wd op++(32::(textT b++[41]))))) else textT a++(32::(wd op++(32::textT b)))
theorem Va (op:Int):(wd op).length≤6:=by
 have key:∀i:Fin 28,((C2.1[i.val]?).getD ⟨#[]⟩).data.toList.length≤6:=by decide
 unfold wd
 by_cases h:op.toNat<28
 ·exact key ⟨op.toNat,h⟩
 ·rw [List.getElem?_eq_none (by rw [C2.2];omega)];simp
theorem A58:∀(k u:Nat),u<10 ^ (k+1)→Lib.nDigits u≤k+1
 | 0,u,h=>by rw [Lib.nDigits_small (by simpa using h)];omega
 | k+1,u,h=>by
  by_cases hu:u<10
  ·rw [Lib.nDigits_small hu];omega
  ·rw [Lib.nDigits_big hu];have:=A58 k (u/10) (by rw [Nat.pow_succ] at h;omega);omega
theorem S5 {v:Int} (h:0≤v∧v≤1000000000):(Lib.itoa v).length≤10:=by
 obtain ⟨u,rfl⟩:∃u:Nat,v=u:=⟨v.toNat,by omega⟩;rw [Lib.itoa_nonneg,Lib.decDigits_length];exact A58 9 u (by omega)
theorem Wo:∀(t:T) (k:Bool),okT k t→(textT t).length≤40*t.size:=by
 intro t
 induction t with
 | leaf op v =>
  intro k h;simp only [textT,T.size]
  split
  ·have:=S5 (v:=v) (by cases k<;>simp only [okT] at h<;>omega);omega
  ·have:=Va op;omega
 | un op r g a ih =>
  intro k h;have ha:okT true a:=by cases k<;>simp only [okT] at h<;>exact h.2
  have h1:=ih true ha;have hr:0≤r∧r≤1000000000:=by cases k<;>simp only [okT] at h<;>omega
  have hg:0≤g∧g≤1000000000:=by cases k<;>simp only [okT] at h<;>omega
  have:=S5 hr;have:=S5 hg;have:=Va op;have:=Va 3;simp only [textT,T.size]
  split<;>simp only [List.length_append,List.length_cons]<;>omega
 | bin op a b iha ihb =>
  intro k h;have hab:(∃q,okT q a)∧∃q,okT q b:=by
   cases k<;>simp only [okT] at h
   ·exact ⟨⟨_,h.2.1⟩,⟨_,h.2.2.1⟩⟩
   ·rcases h with h|h
    ·exact ⟨⟨_,h.2.1⟩,⟨_,h.2.2⟩⟩
    ·exact ⟨⟨_,h.2.2.1⟩,⟨_,h.2.2.2⟩⟩
  obtain ⟨⟨q,ha⟩,q',hb⟩:=hab;have:=iha q ha;have:=ihb q' hb;have:=Va op;simp only [textT,T.size]
  split<;>simp only [List.length_append,List.length_cons,List.length_nil]<;>omega
theorem A2o {β:Type} {F:Nat} {v:Int} {f:ByteArray→Option β} (h:0≤v∧v≤1000000000):(strconv_Itoa F v).bind f=f (tb (Lib.itoa v)):=by
 unfold strconv_Itoa;rw [if_pos (by omega),sbd];rfl
theorem A02 (F:Nat) (p:sift_Node):Ck (F+1) p=Fy F (Ck F) p:=rfl
theorem A3b:(⟨#[32]⟩:ByteArray)=tb [32]:=rfl
theorem T3:∀(t:T) (k:Bool) (F:Nat),okT k t→t.size+2≤F→t.size≤1000000→Ck F t.node=some (tb (textT t)):=by
 intro t
 induction t with
 | leaf op v =>
  intro k F h hF _;obtain ⟨F,rfl⟩:∃G,F=G+1:=⟨F-1,by simp only [T.size] at hF;omega⟩;have h0:0≤op∧op≤27:=by cases k<;>simp only [okT] at h<;>omega
  rw [A02];show Fy F _ ⟨op,v,0,0,[]⟩=_;unfold Fy;dsimp only;rw [wdb h0]
  by_cases h14:op=14
  ·rw [Bf (eqT h14),A2o (by cases k<;>simp only [okT] at h<;>omega)]
   simp only [textT,if_pos h14]
  ·rw [Ao (eqF h14),Ao (eqF (show op≠3 by cases k<;>simp only [okT] at h<;>omega)),Ao (eqF (show (([]:List sift_Node).length:Int)≠1 by simp)),Bf (eqT (show (([]:List sift_Node).length:Int)=0 by simp))]
   simp only [textT,if_neg h14]
 | un op r g a ih =>
  intro k F h hF hs;simp only [T.size] at hF hs;obtain ⟨F,rfl⟩:∃G,F=G+1:=⟨F-1,by omega⟩;have h0:0≤op∧op≤27∧op≠14:=by cases k<;>simp only [okT] at h<;>omega
  have ha:okT true a:=by cases k<;>simp only [okT] at h<;>exact h.2
  have hr:0≤r∧r≤1000000000:=by cases k<;>simp only [okT] at h<;>omega
  have hg:0≤g∧g≤1000000000:=by cases k<;>simp only [okT] at h<;>omega
  have hi:=ih true F ha (by omega) (by omega);have hl:=Wo a true ha;have l1:=S5 hr;have l2:=S5 hg;have l3:=Va op;rw [A02];show Fy F _ ⟨op,0,r,g,[a.node]⟩=_;unfold Fy;dsimp only;rw [wdb ⟨h0.1,h0.2.1⟩,Ao (eqF h0.2.2)]
  by_cases h3:op=3
  ·subst h3;rw [Bf (eqT rfl),A3b,U3 (by simp;omega),Wq,hi,sbd,U3 (by simp;omega)];simp only [textT,if_pos,List.append_assoc,List.singleton_append]
  ·rw [Ao (eqF h3),Bf (eqT (show (([a.node]:List sift_Node).length:Int)=1 by simp)),A3b,U3 (by simp;omega),A2o hr,U3 (by simp;omega),U3 (by simp;omega),A2o hg,U3 (by simp;omega),U3 (by simp;omega),Wq,hi,sbd,U3 (by simp;omega)];simp only [textT,if_neg h3,List.append_assoc,List.singleton_append,List.cons_append,List.nil_append]
 | bin op a b iha ihb =>
  intro k F h hF hs;simp only [T.size] at hF hs;obtain ⟨F,rfl⟩:∃G,F=G+1:=⟨F-1,by omega⟩;have h0:0≤op∧op≤27∧op≠14∧op≠3:=by cases k<;>simp only [okT] at h<;>omega
  have hab:(∃q,okT q a)∧∃q,okT q b:=by
   cases k<;>simp only [okT] at h
   ·exact ⟨⟨_,h.2.1⟩,⟨_,h.2.2.1⟩⟩
   ·rcases h with h|h
    ·exact ⟨⟨_,h.2.1⟩,⟨_,h.2.2⟩⟩
    ·exact ⟨⟨_,h.2.2.1⟩,⟨_,h.2.2.2⟩⟩
  obtain ⟨⟨q,ha⟩,q',hb⟩:=hab;have hia:=iha q F ha (by omega) (by omega);have hib:=ihb q' F hb (by omega) (by omega);have hl:=Wo a q ha;have hl2:=Wo b q' hb;have l3:=Va op;rw [A02];show Fy F _ ⟨op,0,0,0,[a.node,b.node]⟩=_;unfold Fy;dsimp only;rw [wdb ⟨h0.1,h0.2.1⟩,Ao (eqF h0.2.2.1),Ao (eqF h0.2.2.2),Ao (eqF (show (([a.node,b.node]:List sift_Node).length:Int)≠1 by simp)),Ao (eqF (show (([a.node,b.node]:List sift_Node).length:Int)≠0 by simp)),
   Wq,hia,sbd,A3b,U3 (by simp;omega),U3 (by simp;omega),U3 (by simp;omega),A3y,hib,sbd,U3 (by simp;omega)]
  by_cases h14:op<14
  ·rw [Bf (dT h14),show (⟨#[40]⟩:ByteArray)=tb [40] from rfl,show (⟨#[41]⟩:ByteArray)=tb [41] from rfl,U3 (by simp;omega),U3 (by simp;omega)];simp only [textT,if_pos h14,List.append_assoc,List.singleton_append,List.cons_append,List.nil_append]
  ·rw [Ao (dF h14)];simp only [textT,if_neg h14,List.append_assoc,List.singleton_append,List.cons_append,List.nil_append]
end Go.Proofs.YtkjnafecmjakcaaGreatDoor
namespace Go.Proofs.YtkjnafecmjakcaaGreatDoor
open Go Go.RowKit Go.Eng
set_option maxRecDepth 10000
set_option linter.unusedVariables false
set_option linter.unusedSimpArgs false
def Qm (c:UInt8):Bool:=decide (48≤c.toNat)&&decide (c.toNat≤57)
def Vx (u:List UInt8):Prop:=∀c r,u=c::r→Qm c=false
def Vb (u:List UInt8):Prop:=Vx u∧∀c r,u=32::c::r→c≠43∧c≠45
theorem T1 (r:List UInt8):Vx (32::r):=fun c q h=>by cases h;rfl
theorem Zg:∀(n:Nat),∀c∈Lib.decDigits n,Qm c=true:=by
 intro n
 induction n using Nat.strongRecOn with
 | _ n ih =>
  have one:∀i:Fin 10,Qm (UInt8.ofNat (48+i.val))=true:=by decide
  intro c hc;rw [Lib.decDigits] at hc
  split at hc
  ·rename_i h
   rw [List.mem_singleton] at hc;subst hc;exact one ⟨n,h⟩
  ·rcases List.mem_append.1 hc with hc|hc
   ·exact ih (n/10) (by omega) c hc
   ·rw [List.mem_singleton] at hc;subst hc;exact one ⟨n%10,Nat.mod_lt _ (by omega)⟩
def A3i (l:List UInt8):Nat:=l.foldl (fun a c=>10*a+(c.toNat-48)) 0
theorem A0e (n:Nat):A3i (Lib.decDigits n)=n:=by
 induction n using Nat.strongRecOn with
 | _ n ih =>
  have one:∀i:Fin 10,(UInt8.ofNat (48+i.val)).toNat-48=i.val:=by decide
  rw [Lib.decDigits]
  split
  ·rename_i h
   show 10*0+((UInt8.ofNat (48+n)).toNat-48)=n;rw [one ⟨n,h⟩];show 10*0+n=n;omega
  ·have e:=ih (n/10) (by omega);unfold A3i at e ⊢;rw [List.foldl_append,e];show 10*(n/10)+((UInt8.ofNat (48+n%10)).toNat-48)=n;rw [one ⟨n%10,Nat.mod_lt _ (by omega)⟩];show 10*(n/10)+n%10=n;omega
theorem A0v {l x:List UInt8} (hl:∀c∈l,Qm c=true) (hx:Vx x):(l++x).takeWhile Qm=l:=by
 induction l with
 | nil =>
  cases x with
  | nil=>rfl
  | cons c r=>simp [hx c r rfl]
 | cons c l ih=>simp [hl c (by simp),ih (fun d hd=>hl d (by simp [hd]))]
theorem Zv {v v':Int} {x y:List UInt8} (h0:0≤v) (h1:0≤v') (hx:Vx x) (hy:Vx y) (h:Lib.itoa v++x=Lib.itoa v'++y):v=v'∧x=y:=by
 obtain ⟨a,rfl⟩:∃a:Nat,v=a:=⟨v.toNat,by omega⟩;obtain ⟨b,rfl⟩:∃b:Nat,v'=b:=⟨v'.toNat,by omega⟩;rw [Lib.itoa_nonneg,Lib.itoa_nonneg] at h;have e:=congrArg (List.takeWhile Qm) h;rw [A0v (Zg a) hx,A0v (Zg b) hy] at e;have e2:=congrArg A3i e;rw [A0e,A0e] at e2;subst e2;exact ⟨rfl,List.append_cancel_left h⟩
theorem A1l {v:Int} (h:0≤v):∃c r,Lib.itoa v=c::r∧Qm c=true:=by
 obtain ⟨a,rfl⟩:∃a:Nat,v=a:=⟨v.toNat,by omega⟩;rw [Lib.itoa_nonneg]
 cases hd:Lib.decDigits a with
 | nil =>
  have:=Lib.decDigits_length a;rw [hd] at this;have:=Lib.nDigits_pos a;simp at *;omega
 | cons c r=>exact ⟨c,r,rfl,Zg a c (by rw [hd];simp)⟩
def U9:List Int:=[1,2,3,6,7,15,16,17,18,19,20,21,22,23,24,25]
def Ur:List Int:=[4,5,8,9,10,11,12,13]
theorem W8:∀a∈U9,∀b∈U9,List.isPrefixOf (wd a) (wd b)=true→a=b:=by decide
theorem Wm:∀a∈Ur,∀b∈Ur,List.isPrefixOf (wd a++[32]) (wd b++[32])=true→a=b:=by decide
theorem A1h:∀a∈U9,∃c r,wd a=c::r∧Qm c=false∧c≠40:=by
 intro a ha;have key:∀a∈U9,(match wd a with|[]=>false|c::_=>!Qm c&&decide (c≠40))=true:=by decide
 have:=key a ha
 cases hw:wd a with
 | nil=>rw [hw] at this;cases this
 | cons c r =>
  rw [hw] at this;simp at this;exact ⟨c,r,rfl,this.1,this.2⟩
theorem A4z {a b:Int} {x y:List UInt8} (ha:a∈U9) (hb:b∈U9) (h:wd a++x=wd b++y):a=b∧x=y:=by
 have hp:wd a <+: wd b∨wd b <+: wd a:=List.prefix_or_prefix_of_prefix (l₃:=wd a++x) (List.prefix_append _ _) (h▸List.prefix_append _ _);have e:a=b:=by
  rcases hp with hp|hp
  ·exact W8 a ha b hb (List.isPrefixOf_iff_prefix.2 hp)
  ·exact (W8 b hb a ha (List.isPrefixOf_iff_prefix.2 hp)).symm
 subst e;exact ⟨rfl,List.append_cancel_left h⟩
theorem A4m {a b:Int} {x y:List UInt8} (ha:a∈Ur) (hb:b∈Ur) (h:wd a++(32::x)=wd b++(32::y)):a=b∧x=y:=by
 have h2:(wd a++[32])++x=(wd b++[32])++y:=by simpa using h
 have hp:(wd a++[32]) <+: (wd b++[32])∨(wd b++[32]) <+: (wd a++[32]):=List.prefix_or_prefix_of_prefix (l₃:=(wd a++[32])++x) (List.prefix_append _ _) (h2▸List.prefix_append _ _);have e:a=b:=by
  rcases hp with hp|hp
  ·exact Wm a ha b hb (List.isPrefixOf_iff_prefix.2 hp)
  ·exact (Wm b hb a ha (List.isPrefixOf_iff_prefix.2 hp)).symm
 subst e;exact ⟨rfl,List.append_cancel_left h2⟩
theorem Vl:∀a∈Ur,∀r,Vb (32::(wd a++r)):=by
 intro a ha r;have key:∀a∈Ur,(match wd a with|[]=>false|c::_=>decide (c≠43)&&decide (c≠45))=true:=by decide
 have:=key a ha;refine ⟨T1 _,fun c q h=>?_⟩
 cases hw:wd a with
 | nil=>rw [hw] at this;cases this
 | cons d s =>
  rw [hw] at this h;simp at this h;rw [←h.1];exact this
def T.hd:T→T
 | .bin op a b=>if op<14 then .bin op a b else a.hd
 | t=>t
def T.tl:T→List (Int×T)
 | .bin op a b=>if op<14 then [] else a.tl++[(op,b)]
 | _=>[]
def T.mk (h:T) (l:List (Int×T)):T:=l.foldl (fun a p=>.bin p.1 a p.2) h
theorem T.eta (t:T):T.mk t.hd t.tl=t:=by
 induction t with
 | leaf op v=>rfl
 | un op r g a ih=>rfl
 | bin op a b iha ihb =>
  unfold T.hd T.tl
  split
  ·rfl
  ·unfold T.mk at *;rw [List.foldl_append,iha];rfl
def Ps (l:List (Int×T)):List UInt8:=l.flatMap fun p=>32::(wd p.1++(32::textT p.2))
theorem Z4 (t:T):textT t=textT t.hd++Ps t.tl:=by
 induction t with
 | leaf op v=>simp [T.hd,T.tl,Ps]
 | un op r g a ih=>simp [T.hd,T.tl,Ps]
 | bin op a b iha ihb =>
  by_cases h:op<14
  ·simp only [T.hd,T.tl,if_pos h,Ps,List.flatMap_nil,List.append_nil]
  ·simp only [T.hd,T.tl,if_neg h];rw [textT,if_neg h,iha];unfold Ps;simp
def Itm (t:T):Prop:=t.op<26∧∃k,okT k t
theorem T.hd_size (t:T):t.hd.size≤t.size:=by
 induction t with
 | leaf op v=>exact Nat.le_refl _
 | un op r g a ih=>exact Nat.le_refl _
 | bin op a b iha ihb =>
  unfold T.hd
  split
  ·exact Nat.le_refl _
  ·simp only [T.size];omega
theorem A56:∀(t:T) (k:Bool),okT k t→Itm t.hd∧∀p∈t.tl,(p.1=26∨p.1=27)∧Itm p.2∧p.2.size<t.size:=by
 intro t
 induction t with
 | leaf op v=>intro k h;exact ⟨⟨by show op<26;cases k<;>simp only [okT] at h<;>omega,k,h⟩,fun p hp=>by simp [T.tl] at hp⟩
 | un op r g a ih=>intro k h;exact ⟨⟨by show op<26;cases k<;>simp only [okT] at h<;>omega,k,h⟩,fun p hp=>by simp [T.tl] at hp⟩
 | bin op a b iha ihb =>
  intro k h
  by_cases hop:op<14
  ·simp only [T.hd,T.tl,if_pos hop];exact ⟨⟨by show op<26;omega,k,h⟩,fun p hp=>by simp at hp⟩
  ·simp only [T.hd,T.tl,if_neg hop];have hk:(op=26∨op=27)∧okT false a∧okT false b∧b.op<26:=by
    cases k<;>simp only [okT] at h
    ·exact h
    ·omega
   obtain ⟨h1,h2,h3,h4⟩:=hk;obtain ⟨i1,i2⟩:=iha false h2;refine ⟨i1,fun p hp=>?_⟩;rcases List.mem_append.1 hp with hp|hp
   ·obtain ⟨j1,j2,j3⟩:=i2 p hp;exact ⟨j1,j2,by simp only [T.size];omega⟩
   ·simp at hp;subst hp;exact ⟨h1,⟨h4,_,h3⟩,by simp only [T.size];have:=a.size_pos;omega⟩
def PCi (n:Nat):Prop:=∀t t':T,t.size≤n→Itm t→Itm t'→∀u u',Vx u→Vx u'→textT t++u=textT t'++u'→t=t'∧u=u'
def PCa (n:Nat):Prop:=∀(t t':T) (k k':Bool),t.size≤n→okT k t→okT k' t'→∀u u',Vb u→Vb u'→textT t++u=textT t'++u'→t=t'∧u=u'
theorem T2 {l:List (Int×T)} {u:List UInt8} (h:Vx u):Vx (Ps l++u):=by
 cases l with
 | nil=>exact h
 | cons p l=>exact T1 _
theorem A4x:wd 26=[43]:=by decide
theorem A4y:wd 27=[45]:=by decide
theorem A4s {n:Nat} (hP:PCi n):∀(l l':List (Int×T)),(∀p∈l,(p.1=26∨p.1=27)∧Itm p.2∧p.2.size≤n)→(∀p∈l',(p.1=26∨p.1=27)∧Itm p.2)→∀u u',Vb u→Vb u'→Ps l++u=Ps l'++u'→l=l'∧u=u':=by
 have no:∀(p:Int×T) (l:List (Int×T)) (u u':List UInt8),(p.1=26∨p.1=27)→Vb u→Ps (p::l)++u'=u→False:=by
  intro p l u u' hp hu h;have e:∃c r,u=32::c::r∧(c=43∨c=45):=by
   rw [←h];simp only [Ps,List.flatMap_cons,List.cons_append,List.append_assoc];rcases hp with hp|hp
   ·rw [hp,A4x];exact ⟨43,_,rfl,.inl rfl⟩
   ·rw [hp,A4y];exact ⟨45,_,rfl,.inr rfl⟩
  obtain ⟨c,r,e1,e2⟩:=e;have:=hu.2 c r e1;rcases e2 with rfl|rfl
  ·exact this.1 rfl
  ·exact this.2 rfl
 intro l
 induction l with
 | nil =>
  intro l' _ h2 u u' hu hu' h
  cases l' with
  | nil=>exact ⟨rfl,h⟩
  | cons p l'=>exact (no p l' u u' (h2 p (by simp)).1 hu h.symm).elim
 | cons p l ih =>
  intro l' h1 h2 u u' hu hu' h
  cases l' with
  | nil=>exact (no p l u' u (h1 p (by simp)).1 hu' h).elim
  | cons p' l' =>
   obtain ⟨o1,i1,s1⟩:=h1 p (by simp);obtain ⟨o2,i2⟩:=h2 p' (by simp);simp only [Ps,List.flatMap_cons,List.cons_append,List.append_assoc] at h;have h:=(List.cons.inj h).2;have e:p.1=p'.1∧textT p.2++(Ps l++u)=textT p'.2++(Ps l'++u'):=by
    rcases o1 with o1|o1<;>rcases o2 with o2|o2<;>rw [o1,o2] at h ⊢
    ·exact ⟨rfl,by simpa [A4x,Ps] using h⟩
    ·rw [A4x,A4y] at h;simp at h
    ·rw [A4x,A4y] at h;simp at h
    ·exact ⟨rfl,by simpa [A4y,Ps] using h⟩
   obtain ⟨e1,e2⟩:=hP p.2 p'.2 s1 i1 i2 _ _ (T2 hu.1) (T2 hu'.1) e.2;obtain ⟨e3,e4⟩:=ih l' (fun q hq=>h1 q (by simp [hq])) (fun q hq=>h2 q (by simp [hq])) u u' hu hu' e2;refine ⟨?_,e4⟩;rw [e3,show p=p' from Prod.ext e.1 e1]
theorem PCi.all {n:Nat} (h:PCi n):PCa n:=by
 intro t t' k k' hs h1 h2 u u' hu hu' he;obtain ⟨a1,a2⟩:=A56 t k h1;obtain ⟨b1,b2⟩:=A56 t' k' h2;rw [Z4 t,Z4 t',List.append_assoc,List.append_assoc] at he;obtain ⟨e1,e2⟩:=h t.hd t'.hd (Nat.le_trans t.hd_size hs) a1 b1 _ _ (T2 hu.1) (T2 hu'.1) he;obtain ⟨e3,e4⟩:=A4s h t.tl t'.tl (fun p hp=>⟨(a2 p hp).1,(a2 p hp).2.1,by have:=(a2 p hp).2.2;omega⟩) (fun p hp=>⟨(b2 p hp).1,(b2 p hp).2.1⟩) u u' hu hu' e2;refine ⟨?_,e4⟩;rw [←t.eta,←t'.eta,e1,e3]
theorem A11 {c:UInt8} {x y:List UInt8} (h:c::x=c::y):x=y:=(List.cons.inj h).2
theorem V4 {op:Int} (h:op=1∨op=2∨op=3∨op=6∨op=7∨(15≤op∧op≤25)):op∈U9:=by
 have:op=1∨op=2∨op=3∨op=6∨op=7∨op=15∨op=16∨op=17∨op=18∨op=19∨op=20∨op=21∨op=22∨op=23∨op=24∨op=25:=by omega
 simp [U9];omega
theorem Xh {op:Int} (h:op=4∨op=5∨(8≤op∧op≤13)):op∈Ur:=by simp [Ur];omega
inductive Beg where
 | num (v:Int)
 | word (op:Int) (r:List UInt8)
 | open_ (r:List UInt8)
def Beg.tx:Beg→List UInt8
 | .num v=>Lib.itoa v
 | .word op r=>wd op++r
 | .open_ r=>40::r
def Beg.ok:Beg→Prop
 | .num v=>0≤v
 | .word op _=>op∈U9
 | .open_ _=>True
theorem A5i {a b:Beg} {u u':List UInt8} (ha:a.ok) (hb:b.ok) (hu:Vx u) (hu':Vx u') (h:a.tx++u=b.tx++u') :
  (∃v,a=.num v∧b=.num v∧u=u')∨(∃op r r',a=.word op r∧b=.word op r'∧r++u=r'++u')∨∃r r',a=.open_ r∧b=.open_ r'∧r++u=r'++u':=by
 have first:∀(x:Beg),x.ok→∀w,∃c q,x.tx++w=c::q∧(match x with|.num _=>Qm c=true|.word _ _=>Qm c=false∧c≠40|.open_ _=>c=40):=by
  intro x hx w
  cases x with
  | num v =>
   obtain ⟨c,r,e,hd⟩:=A1l hx;exact ⟨c,r++w,by show Lib.itoa v++w=_;rw [e];rfl,hd⟩
  | word op r =>
   obtain ⟨c,s,e,h1,h2⟩:=A1h op hx;exact ⟨c,s++r++w,by show wd op++r++w=_;rw [e];rfl,h1,h2⟩
  | open_ r=>exact ⟨40,r++w,rfl,rfl⟩
 obtain ⟨c,q,e1,k1⟩:=first a ha u
 obtain ⟨c',q',e2,k2⟩:=first b hb u'
 have hc:c=c':=by rw [e1,e2] at h;exact (List.cons.inj h).1
 subst hc;have d40:Qm 40=false:=by decide
 cases a with
 | num v =>
  cases b with
  | num v' =>
   obtain ⟨rfl,e⟩:=Zv ha hb hu hu' h;exact .inl ⟨v,rfl,rfl,e⟩
  | word op r =>
   have k1:Qm c=true:=k1;have k2:Qm c=false∧c≠40:=k2;rw [k1] at k2;cases k2.1
  | open_ r =>
   have k1:Qm c=true:=k1;have k2:c=40:=k2;subst k2;rw [d40] at k1;cases k1
 | word op r =>
  cases b with
  | num v' =>
   have k1:Qm c=false∧c≠40:=k1;have k2:Qm c=true:=k2;rw [k2] at k1;cases k1.1
  | word op' r' =>
   have h:wd op++r++u=wd op'++r'++u':=h;rw [List.append_assoc,List.append_assoc] at h;obtain ⟨rfl,e⟩:=A4z ha hb h;exact .inr (.inl ⟨op,r,r',rfl,rfl,e⟩)
  | open_ r' =>
   have k1:Qm c=false∧c≠40:=k1;have k2:c=40:=k2;exact (k1.2 k2).elim
 | open_ r =>
  have k1:c=40:=k1
  cases b with
  | num v' =>
   have k2:Qm c=true:=k2;subst k1;rw [d40] at k2;cases k2
  | word op' r' =>
   have k2:Qm c=false∧c≠40:=k2;exact (k2.2 k1).elim
  | open_ r'=>exact .inr (.inr ⟨r,r',rfl,rfl,(List.cons.inj h).2⟩)
def T.beg:T→Beg
 | .leaf op v=>if op=14 then .num v else .word op []
 | .un op r g a=>if op=3 then .word 3 (32::textT a) else .word op (32::(Lib.itoa r++(32::(Lib.itoa g++(32::textT a)))))
 | .bin op a b=>.open_ (textT a++(32::(wd op++(32::(textT b++[41])))))
theorem A27 {t:T} (h:Itm t):t.beg.ok∧textT t=t.beg.tx:=by
 obtain ⟨h1,k,h2⟩:=h
 cases t with
 | leaf op v =>
  have h1:op<26:=h1
  by_cases q:op=14
  ·simp only [T.beg,textT,if_pos q];exact ⟨by show 0≤v;cases k<;>simp only [okT] at h2<;>omega,rfl⟩
  ·simp only [T.beg,textT,if_neg q];exact ⟨V4 (by cases k<;>simp only [okT] at h2<;>omega),(List.append_nil _).symm⟩
 | un op r g a =>
  have h1:op<26:=h1
  by_cases q:op=3
  ·simp only [T.beg,textT,if_pos q];exact ⟨V4 (by omega),rfl⟩
  ·simp only [T.beg,textT,if_neg q];exact ⟨V4 (by cases k<;>simp only [okT] at h2<;>omega),rfl⟩
 | bin op a b =>
  have h3:op<14:=by
   have h1:op<26:=h1
   cases k<;>simp only [okT] at h2<;>omega
  simp only [T.beg,textT,if_pos h3];exact ⟨trivial,rfl⟩
theorem A13 (op v:Int):(op=14∧(T.leaf op v).beg=.num v)∨(op≠14∧(T.leaf op v).beg=.word op []):=by
 by_cases q:op=14
 ·exact .inl ⟨q,by simp only [T.beg,if_pos q]⟩
 ·exact .inr ⟨q,by simp only [T.beg,if_neg q]⟩
theorem A14 (op r g:Int) (a:T):(op=3∧(T.un op r g a).beg=.word 3 (32::textT a))∨(op≠3∧(T.un op r g a).beg=.word op (32::(Lib.itoa r++(32::(Lib.itoa g++(32::textT a)))))):=by
 by_cases q:op=3
 ·exact .inl ⟨q,by simp only [T.beg,if_pos q]⟩
 ·exact .inr ⟨q,by simp only [T.beg,if_neg q]⟩
theorem A3m (op:Int) (a b:T):(T.bin op a b).beg=.open_ (textT a++(32::(wd op++(32::(textT b++[41]))))):=rfl
theorem okL {k:Bool} {op v:Int} (h:okT k (.leaf op v)):0≤v∧(op≠14→v=0)∧op≠3∧(op<7∨op=14∨(15≤op∧op≤25)):=by cases k<;>simp only [okT] at h<;>omega
theorem okU {k:Bool} {op r g:Int} {x:T} (h:okT k (.un op r g x)):okT true x∧0≤r∧0≤g∧(op=3→r=0∧g=0):=by
 cases k<;>simp only [okT] at h
 ·exact ⟨h.2,by omega,by omega,by omega⟩
 ·exact ⟨h.2,by omega,by omega,by omega⟩
theorem A4c {k k':Bool} {op v r g:Int} {x:T} (h:okT k (.leaf op v)) (h':okT k' (.un op r g x)):False:=by cases k<;>cases k'<;>simp only [okT] at h h'<;>omega
theorem okB {k:Bool} {op:Int} {a b:T} (h:okT k (.bin op a b)) (h2:op<26):(∃q,okT q a)∧(∃q,okT q b)∧op∈Ur:=by
 cases k<;>simp only [okT] at h
 ·omega
 ·rcases h with h|h
  ·exact ⟨⟨_,h.2.1⟩,⟨_,h.2.2⟩,Xh (by omega)⟩
  ·exact ⟨⟨_,h.2.2.1⟩,⟨_,h.2.2.2⟩,Xh (by omega)⟩
theorem Ub {x:T} (h:okT true x):Itm x:=⟨by cases x<;>simp only [okT] at h<;>simp only [T.op]<;>omega,_,h⟩
theorem A4d:∀n,PCi n:=by
 intro n
 induction n with
 | zero=>intro t t' hs;have:=t.size_pos;omega
 | succ n ih =>
  have hA:=ih.all;intro t t' hs h1 h2 u u' hu hu' he;obtain ⟨a1,a2⟩:=A27 h1;obtain ⟨b1,b2⟩:=A27 h2;rw [a2,b2] at he;obtain ⟨h3,k,h4⟩:=h1;obtain ⟨h5,k',h6⟩:=h2;have paren:∀r,Vb (41::r):=fun r=>⟨fun c q h=>by cases h;rfl,fun c q h=>by cases h⟩
  have he:=A5i a1 b1 hu hu' he
  cases t with
  | leaf op1 w =>
   obtain ⟨o1,o2,-,-⟩:=okL h4
   cases t' with
   | leaf op2 w' =>
    obtain ⟨o3,o4,-,-⟩:=okL h6;rcases A13 op1 w with ⟨q1,q2⟩|⟨q1,q2⟩<;>rcases A13 op2 w' with ⟨q3,q4⟩|⟨q3,q4⟩<;>rw [q2,q4] at he <;>
     rcases he with ⟨v,e1,e2,e3⟩|⟨op,r,r',e1,e2,e3⟩|⟨r,r',e1,e2,e3⟩<;>cases e1<;>cases e2
    ·exact ⟨by rw [q1,q3],e3⟩
    ·exact ⟨by rw [o2 q1,o4 q1],e3⟩
   | un op2 r2 g2 y =>
    exfalso;rcases A13 op1 w with ⟨q1,q2⟩|⟨q1,q2⟩<;>rcases A14 op2 r2 g2 y with ⟨q3,q4⟩|⟨q3,q4⟩<;>rw [q2,q4] at he <;>
     rcases he with ⟨v,e1,e2,e3⟩|⟨op,r,r',e1,e2,e3⟩|⟨r,r',e1,e2,e3⟩<;>cases e1<;>cases e2
    ·subst q3;exact A4c h4 h6
    ·exact A4c h4 h6
   | bin op2 a' b' =>
    exfalso;rcases A13 op1 w with ⟨q1,q2⟩|⟨q1,q2⟩<;>rw [q2,A3m] at he <;>
     rcases he with ⟨v,e1,e2,e3⟩|⟨op,r,r',e1,e2,e3⟩|⟨r,r',e1,e2,e3⟩<;>cases e1<;>cases e2
  | un op1 r1 g1 x =>
   obtain ⟨hx,z1,z2,z3⟩:=okU h4;simp only [T.size] at hs
   cases t' with
   | leaf op2 w' =>
    exfalso;rcases A14 op1 r1 g1 x with ⟨q1,q2⟩|⟨q1,q2⟩<;>rcases A13 op2 w' with ⟨q3,q4⟩|⟨q3,q4⟩<;>rw [q2,q4] at he <;>
     rcases he with ⟨v,e1,e2,e3⟩|⟨op,r,r',e1,e2,e3⟩|⟨r,r',e1,e2,e3⟩<;>cases e1<;>cases e2
    ·subst q1;exact A4c h6 h4
    ·exact A4c h6 h4
   | un op2 r2 g2 y =>
    obtain ⟨hy,y1,y2,y3⟩:=okU h6;rcases A14 op1 r1 g1 x with ⟨q1,q2⟩|⟨q1,q2⟩<;>rcases A14 op2 r2 g2 y with ⟨q3,q4⟩|⟨q3,q4⟩<;>rw [q2,q4] at he <;>
     rcases he with ⟨v,e1,e2,e3⟩|⟨op,r,r',e1,e2,e3⟩|⟨r,r',e1,e2,e3⟩<;>cases e1<;>cases e2
    ·obtain ⟨e4,e5⟩:=ih x y (by omega) (Ub hx) (Ub hy) u u' hu hu' (A11 e3);exact ⟨by rw [q1,q3,(z3 q1).1,(z3 q1).2,(y3 q3).1,(y3 q3).2,e4],e5⟩
    ·exact (q3 rfl).elim
    ·exact (q1 rfl).elim
    ·have e4:=A11 e3;have e4:Lib.itoa r1++(32::(Lib.itoa g1++(32::(textT x++u))))=Lib.itoa r2++(32::(Lib.itoa g2++(32::(textT y++u')))):=by simpa using e4
     obtain ⟨f1,f2⟩:=Zv z1 y1 (T1 _) (T1 _) e4;obtain ⟨f3,f4⟩:=Zv z2 y2 (T1 _) (T1 _) (A11 f2);obtain ⟨f5,f6⟩:=ih x y (by omega) (Ub hx) (Ub hy) u u' hu hu' (A11 f4);exact ⟨by rw [f1,f3,f5],f6⟩
   | bin op2 a' b' =>
    exfalso;rcases A14 op1 r1 g1 x with ⟨q1,q2⟩|⟨q1,q2⟩<;>rw [q2,A3m] at he <;>
     rcases he with ⟨v,e1,e2,e3⟩|⟨op,r,r',e1,e2,e3⟩|⟨r,r',e1,e2,e3⟩<;>cases e1<;>cases e2
  | bin op1 a b =>
   have h3:op1<26:=h3;obtain ⟨⟨q1,oa⟩,⟨q2,ob⟩,os⟩:=okB h4 h3;simp only [T.size] at hs;rw [A3m] at he
   cases t' with
   | leaf op2 w' =>
    exfalso;rcases A13 op2 w' with ⟨q3,q4⟩|⟨q3,q4⟩<;>rw [q4] at he <;>
     rcases he with ⟨v,e1,e2,e3⟩|⟨op,r,r',e1,e2,e3⟩|⟨r,r',e1,e2,e3⟩<;>cases e1<;>cases e2
   | un op2 r2 g2 y =>
    exfalso;rcases A14 op2 r2 g2 y with ⟨q3,q4⟩|⟨q3,q4⟩<;>rw [q4] at he <;>
     rcases he with ⟨v,e1,e2,e3⟩|⟨op,r,r',e1,e2,e3⟩|⟨r,r',e1,e2,e3⟩<;>cases e1<;>cases e2
   | bin op2 a' b' =>
    have h5:op2<26:=h5;obtain ⟨⟨q3,oa'⟩,⟨q4,ob'⟩,os'⟩:=okB h6 h5;rw [A3m] at he;rcases he with ⟨v,e1,e2,e3⟩|⟨op,r,r',e1,e2,e3⟩|⟨r,r',e1,e2,e3⟩<;>cases e1<;>cases e2
    simp only [List.append_assoc,List.cons_append,List.nil_append] at e3;obtain ⟨f1,f2⟩:=hA a a' q1 q3 (by omega) oa oa' _ _ (Vl op1 os _) (Vl op2 os' _) e3;obtain ⟨f3,f4⟩:=A4m os os' (A11 f2);obtain ⟨f5,f6⟩:=hA b b' q2 q4 (by omega) ob ob' _ _ (paren _) (paren _) f4;exact ⟨by rw [f1,f3,f5],A11 f6⟩
theorem Z5 {t t':T} {k k':Bool} (h:okT k t) (h':okT k' t') (e:textT t=textT t'):t=t' :=
 have sn:Vb []:=⟨(fun _ _ h=>by simp at h),(fun _ _ h=>by simp at h)⟩
 ((A4d t.size).all t t' k k' (Nat.le_refl _) h h' [] [] sn sn (by rw [e])).1
end Go.Proofs.YtkjnafecmjakcaaGreatDoor
namespace Go.Proofs.YtkjnafecmjakcaaGreatDoor
open Go Go.RowKit Go.Eng
set_option maxRecDepth 10000
set_option linter.unusedVariables false
set_option linter.unusedSimpArgs false
def tab {α:Type} (n:Nat) (f:Int→α):List α:=(List.range n).map fun i:Nat=>f (i:Int)
theorem A4r {α:Type} (n:Nat) (f:Int→α):(tab n f).length=n:=by simp [tab]
theorem A0u {α:Type} {n i:Nat} {f:Int→α} (h:i<n):(tab n f)[i]? = some (f i):=by simp [tab,h]
theorem Rn {α β:Type} {n:Nat} {f:Int→α} {g:α→Option β} {i:Int} (h:0≤i∧i<n):(Au (tab n f) i).bind g=g (f i):=by
 obtain ⟨j,rfl⟩:∃j:Nat,i=j:=⟨i.toNat,by omega⟩;exact Fi j _ rfl (A0u (by omega))
theorem A3s {α:Type} {L:Nat→Int→Int→List α→Option (List α)} {f:Int→Option α} {g:Int→α} {N:Nat}
  (hL:∀n x i l,L (n+1) x i l=bif decide (i<x) then ((f i).bind fun y=>(Au l i).bind fun _=>(M7 l i y).bind fun l'=>(ck (i+1)).bind fun i'=>L n x i' l') else some l)
  (hf:∀i:Int,0≤i→i<N→f i=some (g i)) (hN:N≤1000000) :
  ∀(F j:Nat) (l:List α),l.length=N→N+1≤F+j→j≤N→(∀i:Nat,i<j→l[i]? = some (g i))→L F N j l=some (tab N g):=by
 intro F
 induction F with
 | zero=>intro j l _ h1 h2;omega
 | succ F ih =>
  intro j l hl h1 h2 h3;rw [hL]
  by_cases hj:j<N
  ·rw [Bf (dT (by omega)),hf j (by omega) (by omega),sbd,Fi j _ rfl (List.getElem?_eq_getElem (by omega)),show M7 l (j:Int) (g j)=some (l.set j (g j)) by unfold M7;rw [if_pos (by omega),Int.toNat_natCast],sbd,ckb (by omega)];refine ih (j+1) _ (by simp [hl]) (by omega) (by omega) fun i hi=>?_
   by_cases e:i=j
   ·subst e;rw [List.getElem?_set_self (by omega)]
   ·rw [List.getElem?_set_ne (by omega)];exact h3 i (by omega)
  ·rw [Ao (dF (by omega))]
   congr 1
   apply List.ext_getElem?;intro i
   by_cases hi:i<N
   ·rw [h3 i (by omega),A0u hi]
   ·rw [List.getElem?_eq_none (by omega),List.getElem?_eq_none (by rw [A4r];omega)]
theorem Pu {α:Type} {L:Nat→Int→Int→List α→Option (List α)} {f:Int→Option α} {g:Int→α} {N F B:Nat} {p:Int} {z:α}
  (hL:∀n x i l,L (n+1) x i l=bif decide (i<x) then ((f i).bind fun y=>(Au l i).bind fun _=>(M7 l i y).bind fun l'=>(ck (i+1)).bind fun i'=>L n x i' l') else some l)
  (hf:∀i:Int,0≤i→i<N→f i=some (g i)) (hN:N≤1000000) (hF:N+1≤F) (hp:p=N) (hB:B≤1000) :
  ((mkI B p z).bind fun l=>L F ((l.length:Nat):Int) 0 l)=some (tab N g):=by
 subst hp;have hm:B*N≤1000*1000000:=Nat.mul_le_mul hB hN;unfold mkI;rw [if_pos (by simp only [Int.toNat_natCast];omega),sbd,List.length_replicate];exact A3s hL hf hN F 0 _ (by simp) (by omega) (by omega) (fun i hi=>by omega)
def irg (lo hi:Int):List Int:=(List.range (hi+1-lo).toNat).map fun i:Nat=>lo+(i:Int)
theorem A0o {lo hi:Int} (h:hi<lo):irg lo hi=[]:=by
 unfold irg;rw [show (hi+1-lo).toNat=0 by omega];rfl
theorem Yk {lo hi:Int} (h:lo≤hi):irg lo hi=lo::irg (lo+1) hi:=by
 unfold irg;rw [show (hi+1-lo).toNat=(hi+1-(lo+1)).toNat+1 by omega,List.range_succ_eq_map,List.map_cons,List.map_map]
 congr 1
 ·simp
 ·apply List.map_congr_left;intro i _;show lo+((i+1:Nat):Int)=lo+1+(i:Int);omega
theorem A46 {lo hi x:Int}:x∈irg lo hi↔lo≤x∧x≤hi:=by
 unfold irg;rw [List.mem_map];constructor
 ·rintro ⟨i,h1,h2⟩;have:=List.mem_range.1 h1;omega
 ·rintro ⟨h1,h2⟩;exact ⟨(x-lo).toNat,List.mem_range.2 (by omega),by omega⟩
theorem Zu {q j R m:Int} (h1:0≤q) (h2:q<R) (h3:0≤j) (h4:j<m):0≤q*m+j∧q*m+j<R*m:=by
 have a:0≤q*m:=Int.mul_nonneg h1 (by omega);have b:(q+1)*m≤R*m:=Int.mul_le_mul_of_nonneg_right (by omega) (by omega);rw [Int.add_mul] at b;omega
def nb1 (R m k g b:Int):List Int:=((irg (if k%m-g>0 then k%m-g else 0) (if k%m+g<m-1 then k%m+g else m-1)).map fun j=>(b+R)%R*m+j).filter fun o=>o != k
def nbs (R m k r g:Int):List Int:=(if k/m+r-(k/m-r)≥R then irg 0 (R-1) else irg (k/m-r) (k/m+r)).flatMap (nb1 R m k g)
section
variable {σ:Type} {body:σ→Int→Option (σ×Bool)} {f:σ→Int→σ} {P:σ→Nat→Prop} {d:sift_scan} {R m k r g:Int}
theorem ar4 (hR:((d.s.Rays.length:Nat):Int)=R) (hm:d.s.Site.Gates=m) (hR1:1≤R∧R≤1000) (hm1:1≤m∧m≤1000) (hk:0≤k∧k≤1000000) (hg:0≤g∧g≤3)
  (hb:∀s o c,P s c→0≤o→o<R*m→c≤1000000→body s o=some (f s o,true)∧P (f s o) (c+1)) (b:Int) (hb0:0≤b+R∧b≤1000) (k2:Int→σ→Option (σ×Bool)) :
  ∀(n:Nat) (j:Int) (s:σ) (c:Nat),P s c→0≤j→((if k%m+g<m-1 then k%m+g else m-1)+1-j).toNat+1≤n→c+((if k%m+g<m-1 then k%m+g else m-1)+1-j).toNat≤1000000 →
  ∃c',P ((((irg j (if k%m+g<m-1 then k%m+g else m-1)).map fun j=>(b+R)%R*m+j).filter fun o=>o != k).foldl f s) c'∧c'≤c+((if k%m+g<m-1 then k%m+g else m-1)+1-j).toNat ∧
   Cq body k g d (k%m) b k2 n j s=Dq b k2 ((((irg j (if k%m+g<m-1 then k%m+g else m-1)).map fun j=>(b+R)%R*m+j).filter fun o=>o != k).foldl f s):=by
 have hkm:0≤k%m∧k%m<m:=⟨Int.emod_nonneg _ (by omega),Int.emod_lt_of_pos _ (by omega)⟩;generalize hhi:(if k%m+g<m-1 then k%m+g else m-1)=hi;have hhi2:hi≤m-1:=by subst hhi;split<;>omega
 have hq:0≤(b+R)%R∧(b+R)%R<R:=⟨Int.emod_nonneg _ (by omega),Int.emod_lt_of_pos _ (by omega)⟩;have hMM:R*m≤1000000:=by
  have:=Int.mul_le_mul hR1.2 hm1.2 (by omega) (by omega);omega
 intro n
 induction n with
 | zero=>intro j s c _ _ h;omega
 | succ n ih =>
  intro j s c hP hj hn hc;show ∃c',_∧_∧Do body k g d (k%m) b k2 (Cq body k g d (k%m) b k2 n) j s=_;unfold Do;rw [hm,hR,ckb (by omega),ckb (by omega),hhi]
  by_cases hjh:j≤hi
  ·have hin:=Zu hq.1 hq.2 hj (show j<m by omega);have hqm:0≤(b+R)%R*m:=Int.mul_nonneg hq.1 (by omega);rw [Bf (dT hjh),ckb (by omega)];rw [show R8 (b+R) R=some ((b+R)%R) by unfold R8;rw [if_neg (by omega),Int.tmod_eq_emod_of_nonneg (by omega)],sbd,ckb (by omega),ckb (by omega),Yk hjh,List.map_cons]
   by_cases ho:(b+R)%R*m+j=k
   ·rw [Ao (neF ho),ckb (by omega),List.filter_cons_of_neg (p:=fun o=>o != k) (a:=(b+R)%R*m+j) (by show ¬(((b+R)%R*m+j) != k)=true;rw [neF ho];simp)];obtain ⟨c',h1,h2,h3⟩:=ih (j+1) s c hP (by omega) (by omega) (by omega);exact ⟨c',h1,by omega,h3⟩
   ·obtain ⟨e1,e2⟩:=hb s _ c hP hin.1 hin.2 (by omega);rw [Bf (neT ho),e1,sbd,Bf rfl,ckb (by omega),List.filter_cons_of_pos (p:=fun o=>o != k) (a:=(b+R)%R*m+j) (neT ho),List.foldl_cons];obtain ⟨c',h1,h2,h3⟩:=ih (j+1) _ (c+1) e2 (by omega) (by omega) (by omega);exact ⟨c',h1,by omega,h3⟩
  ·rw [Ao (dF hjh),A0o (by omega)];exact ⟨c,hP,by omega,rfl⟩
theorem ar2 (hR:((d.s.Rays.length:Nat):Int)=R) (hm:d.s.Site.Gates=m) (hR1:1≤R∧R≤1000) (hm1:1≤m∧m≤1000) (hk:0≤k∧k≤1000000) (hg:0≤g∧g≤3)
  (hb:∀s o c,P s c→0≤o→o<R*m→c≤1000000→body s o=some (f s o,true)∧P (f s o) (c+1)) (last:Int) (hl:last≤1000) (F:Nat) (hF:1002≤F) :
  ∀(n:Nat) (b:Int) (s:σ) (c:Nat),P s c→0≤b+R→(last+1-b).toNat+1≤n→c+(last+1-b).toNat*1000≤1000000 →
   C5 F body k g d (k%m) last n b s=some (((irg b last).flatMap (nb1 R m k g)).foldl f s,true):=by
 have hkm:0≤k%m∧k%m<m:=⟨Int.emod_nonneg _ (by omega),Int.emod_lt_of_pos _ (by omega)⟩;intro n
 induction n with
 | zero=>intro b s c _ _ h;omega
 | succ n ih =>
  intro b s c hP hb0 hn hc;show Dn F body k g d (k%m) last (C5 F body k g d (k%m) last n) b s=_;unfold Dn
  by_cases hbl:b≤last
  ·rw [Bf (dT hbl),ckb (by omega),Yk hbl,List.flatMap_cons,List.foldl_append];have hhi:(if k%m+g<m-1 then k%m+g else m-1)≤999:=by split<;>omega
   have hlo:0≤(if k%m-g>0 then k%m-g else 0):=by split<;>omega
   obtain ⟨c',h1,h2,h3⟩:=ar4 hR hm hR1 hm1 hk hg hb b (by omega) (C5 F body k g d (k%m) last n) F (if k%m-g>0 then k%m-g else 0) s c hP hlo (by omega) (by omega);rw [h3];unfold Dq;rw [ckb (by omega)];exact ih (b+1) _ c' h1 (by omega) (by omega) (by omega)
  ·rw [Ao (dF hbl),A0o (by omega)];rfl
theorem X6 (hR:((d.s.Rays.length:Nat):Int)=R) (hm:d.s.Site.Gates=m) (hR1:4≤R∧R≤500) (hm1:1≤m∧m≤1000) (hk:0≤k∧k<R*m) (hr:0≤r∧r≤3) (hg:0≤g∧g≤3)
  (hb:∀s o c,P s c→0≤o→o<R*m→c≤1000000→body s o=some (f s o,true)∧P (f s o) (c+1)) {F:Nat} (hF:1002≤F) {s:σ} (h0:P s 0) :
  E2 F (some d) k r g body s=some ((nbs R m k r g).foldl f s,true):=by
 have hMM:R*m≤500000:=by
  have:=Int.mul_le_mul hR1.2 hm1.2 (by omega) (by omega);omega
 have hd:0≤k/m∧k/m<R:=⟨Int.ediv_nonneg hk.1 (by omega),Int.ediv_lt_of_lt_mul (by omega) hk.2⟩;unfold E2;rw [sbd,hm,hR,show Wx k m=some (k/m) by unfold Wx;rw [if_neg (by omega),Int.tdiv_eq_ediv_of_nonneg hk.1];unfold ck;rw [if_pos (by omega)],sbd,
  show R8 k m=some (k%m) by unfold R8;rw [if_neg (by omega),Int.tmod_eq_emod_of_nonneg hk.1],sbd,ckb (by omega),ckb (by omega),ckb (by omega)]
 unfold nbs Dp
 by_cases h:k/m+r-(k/m-r)≥R
 ·rw [Bf (dT h),if_pos h,ckb (by omega)];exact ar2 hR hm ⟨by omega,by omega⟩ hm1 ⟨hk.1,by omega⟩ hg hb _ (by omega) F hF F 0 s 0 h0 (by omega) (by omega) (by omega)
 ·rw [Ao (dF h),if_neg h];exact ar2 hR hm ⟨by omega,by omega⟩ hm1 ⟨hk.1,by omega⟩ hg hb _ (by omega) F hF F _ s 0 h0 (by omega) (by omega) (by omega)
end
theorem A0r {R m k r g o:Int} (hR:1≤R) (hm:1≤m) (h:o∈nbs R m k r g):0≤o∧o<R*m:=by
 have key:∀b,o∈nb1 R m k g b→0≤o∧o<R*m:=by
  intro b hb;unfold nb1 at hb;obtain ⟨j,h1,rfl⟩:=List.mem_map.1 ((List.mem_filter.1 hb).1);have h2:=A46.1 h1;refine Zu (Int.emod_nonneg _ (by omega)) (Int.emod_lt_of_pos _ (by omega)) ?_ ?_
  ·have:=h2.1;split at this<;>omega
  ·have:=h2.2;split at this<;>omega
 unfold nbs at h;obtain ⟨b,_,h2⟩:=List.mem_flatMap.1 h;exact key b h2
end Go.Proofs.YtkjnafecmjakcaaGreatDoor
namespace Go.Proofs.YtkjnafecmjakcaaGreatDoor
open Go Go.RowKit Go.Eng
set_option maxRecDepth 10000
set_option linter.unusedVariables false
set_option linter.unusedSimpArgs false
def rowS (s:api_Sweep) (k:Int):api_Echo:=((s.Rays[(k/s.Site.Gates).toNat]?.getD [])[(k%s.Site.Gates).toNat]?).getD default
def pt (n:Int):sift_val:=⟨⟨n,n⟩,true⟩
def noV:sift_val:=⟨⟨0,0⟩,false⟩
def Q4 (s:api_Sweep) (op v k:Int):sift_val :=
 if op=14 then pt v else if op=21 then pt (rowS s k).Kind else if op=22 then pt (k/s.Site.Gates) else if op=23 then pt (k%s.Site.Gates) else if op=24 then pt s.Tilt else if op=15 then ⟨(rowS s k).Power,true⟩
 else if (rowS s k).Kind=1 then noV else if op=16 then ⟨(rowS s k).Ratio,true⟩ else if op=17 then ⟨(rowS s k).Match,true⟩ else if op=18 then pt (rowS s k).Spread else if (rowS s k).Kind=2 then noV else if op=19 then ⟨(rowS s k).Turn,true⟩ else ⟨⟨(rowS s k).Steps.1.Lo,(rowS s k).Steps.1.Hi⟩,true⟩
def tri (a b:Prop) [Decidable a] [Decidable b]:Int:=if a then 1 else if b then 2 else 3
def mx (a b:Int):Int:=if b>a then b else a
def mn (a b:Int):Int:=if b<a then b else a
def S3 (op:Int) (x y:api_Span):Int :=
 if op=8∨op=10 then tri (x.Hi<y.Lo) (x.Lo<y.Hi) else if op=9∨op=11 then tri (x.Hi≤y.Lo) (x.Lo≤y.Hi)
 else if op=12 then tri (mx x.Hi y.Hi=mn x.Lo y.Lo) (x.Lo≤y.Hi∧y.Lo≤x.Hi) else tri (x.Hi<y.Lo∨y.Hi<x.Lo) (mx x.Hi y.Hi≠mn x.Lo y.Lo)
def Vo (op:Int) (a b:sift_val):Int :=
 if a.has=false∨b.has=false then 3 else if op=10∨op=11 then S3 op b.span a.span else S3 op a.span b.span
def Vs (op:Int) (a b:sift_val):sift_val :=
 if a.has=false∨b.has=false then noV else if op=27 then ⟨⟨a.span.Lo-b.span.Hi,a.span.Hi-b.span.Lo⟩,true⟩ else ⟨⟨a.span.Lo+b.span.Lo,a.span.Hi+b.span.Hi⟩,true⟩
def Tc (op:Int) (l:List Int) (f:Int→Int):Int :=
 if op=6 then l.foldl (fun a o=>mn a (f o)) 3 else l.foldl (fun a o=>mx a (f o)) 1
def Q2 (l:List Int) (f:Int→Int):sift_val:=⟨⟨l.countP fun o=>f o==1,l.countP fun o=>f o != 3⟩,true⟩
def T.sem (s:api_Sweep):T→Int→Int×sift_val
 | .leaf op v,k=>(if op=1 then 1 else 3,Q4 s op v k)
 | .un op r g a,k=>(if op=3 then 4-(a.sem s k).1 else Tc op (nbs s.Rays.length s.Site.Gates k r g) fun o=>(a.sem s o).1,Q2 (nbs s.Rays.length s.Site.Gates k r g) fun o=>(a.sem s o).1)
 | .bin op a b,k=>(if op=4 then mx (a.sem s k).1 (b.sem s k).1 else if op=5 then mn (a.sem s k).1 (b.sem s k).1 else Vo op (a.sem s k).2 (b.sem s k).2,Vs op (a.sem s k).2 (b.sem s k).2)
def bdS (x:api_Span):Prop:=-2147483648≤x.Lo∧x.Lo≤2147483648∧-2147483648≤x.Hi∧x.Hi≤2147483648
def bdE (e:api_Echo):Prop:=bdS e.Power∧bdS e.Ratio∧bdS e.Match∧bdS e.Turn∧bdS e.Steps.1∧bdS e.Steps.2∧0≤e.Kind∧e.Kind≤3∧0≤e.Spread∧e.Spread≤65535
structure Swp (s:api_Sweep) (R m:Nat):Prop where
 hR:s.Rays.length=R
 hm:s.Site.Gates=m
 R4:4≤R∧R≤500
 m1:1≤m∧m≤1000
 N1:R*m≤1000
 rows:∀l∈s.Rays,l.length=m
 bds:∀l∈s.Rays,∀e∈l,bdE e
 tilt:0≤s.Tilt∧s.Tilt≤256
theorem km {R m:Nat} {k:Int} (hm:1≤m) (h:0≤k∧k<(R*m:Nat)):0≤k/m∧k/m<R∧0≤k%m∧k%m<m:=by
 rw [Int.natCast_mul] at h;exact ⟨Int.ediv_nonneg h.1 (by omega),Int.ediv_lt_of_lt_mul (by omega) h.2,Int.emod_nonneg _ (by omega),Int.emod_lt_of_pos _ (by omega)⟩
theorem Vw {s:api_Sweep} {R m:Nat} (h:Swp s R m) {k:Int} (hk:0≤k∧k<(R*m:Nat)) :
  ∃row,s.Rays[(k/m).toNat]? = some row∧row[(k%m).toNat]? = some (rowS s k)∧bdE (rowS s k):=by
 obtain ⟨a,b,c,d⟩:=km h.m1.1 hk;have h1:(k/m).toNat<s.Rays.length:=by rw [h.hR];omega
 have h2:(k%m).toNat<(s.Rays[(k/m).toNat]).length:=by rw [h.rows _ (List.getElem_mem h1)];omega
 have e:rowS s k=(s.Rays[(k/m).toNat])[(k%m).toNat]:=by
  unfold rowS;rw [h.hm,List.getElem?_eq_getElem h1,Option.getD_some,List.getElem?_eq_getElem h2,Option.getD_some]
 refine ⟨_,List.getElem?_eq_getElem h1,?_,?_⟩
 ·rw [e];exact List.getElem?_eq_getElem h2
 ·rw [e];exact h.bds _ (List.getElem_mem h1) _ (List.getElem_mem h2)
theorem A5a {β:Type} {k m:Int} {f:Int→Option β} (hk:0≤k∧k≤1000000) (hm:1≤m):(Wx k m).bind f=f (k/m):=by
 have h0:0≤k/m:=Int.ediv_nonneg hk.1 (by omega);have h1:k/m≤k:=Int.ediv_le_self _ hk.1;unfold Wx;rw [if_neg (by omega),Int.tdiv_eq_ediv_of_nonneg hk.1,ckb (by omega)]
theorem Vi {β:Type} {k m:Int} {f:Int→Option β} (hk:0≤k) (hm:1≤m):(R8 k m).bind f=f (k%m):=by
 unfold R8;rw [if_neg (by omega),Int.tmod_eq_emod_of_nonneg hk];rfl
theorem Swp.lt {s:api_Sweep} {R m:Nat} (h:Swp s R m) {k:Int} (hk:0≤k∧k<(R*m:Nat)):k≤1000000:=by have:=h.N1;omega
theorem A2k {s:api_Sweep} {R m:Nat} (h:Swp s R m) {k:Int} (hk:0≤k∧k<(R*m:Nat)) (F:Nat) {d:sift_scan} (hd:d.s=s) (p:sift_Node) :
  Ee F k (some d) p=some (Q4 s p.Op p.Value_ k):=by
 obtain ⟨row,h1,h2,-⟩:=Vw h hk;obtain ⟨a,b,c,e⟩:=km h.m1.1 hk;have h3:=h.m1;have h4:=h.lt hk;unfold Ee;rw [sbd,hd,h.hm,A5a ⟨hk.1,h4⟩ (by omega),Fi (k/m).toNat row (by omega) h1,Vi hk.1 (by omega),Fi (k%m).toNat _ (by omega) h2,A5a ⟨hk.1,h4⟩ (by omega),Vi hk.1 (by omega)];unfold Q4 A4;rw [h.hm];simp only [Bool.cond_eq_ite,beq_iff_eq,apply_ite some];rfl
theorem A20 {a b:Bool} {p q:Prop} [Decidable p] [Decidable q] (h1:a=true↔p) (h2:b=true↔q):Bh a b=some (tri p q):=by
 unfold Bh tri
 by_cases hp:p
 ·rw [Bf (h1.2 hp),if_pos hp]
 ·rw [Ao (by cases a<;>simp_all),if_neg hp]
  by_cases hq:q
  ·rw [Bf (h2.2 hq),if_pos hq]
  ·rw [Ao (by cases b<;>simp_all),if_neg hq]
theorem A6l {p q:Prop} [Decidable p] [Decidable q]:(bif decide p then decide q else false)=true↔p∧q:=by by_cases h:p<;>simp [h]
theorem orB {p q:Prop} [Decidable p] [Decidable q]:(bif decide p then true else decide q)=true↔p∨q:=by by_cases h:p<;>simp [h]
theorem A53 {op:Int} {x y:api_Span} (h:op=8∨op=10):S3 op x y=tri (x.Hi<y.Lo) (x.Lo<y.Hi):=by unfold S3;rw [if_pos h]
theorem A54 {op:Int} {x y:api_Span} (h:op=9∨op=11):S3 op x y=tri (x.Hi≤y.Lo) (x.Lo≤y.Hi):=by
 have h1:¬(op=8∨op=10):=by omega
 unfold S3;rw [if_neg h1,if_pos h]
theorem A5l {x y:api_Span}:S3 12 x y=tri (mx x.Hi y.Hi=mn x.Lo y.Lo) (x.Lo≤y.Hi∧y.Lo≤x.Hi):=rfl
theorem A5m {x y:api_Span}:S3 13 x y=tri (x.Hi<y.Lo∨y.Hi<x.Lo) (mx x.Hi y.Hi≠mn x.Lo y.Lo):=rfl
theorem A0b {p:sift_Node} {x y:api_Span} (hop:8≤p.Op∧p.Op≤13):Ci p x.Lo x.Hi y.Lo y.Hi=some (S3 p.Op x y):=by
 unfold Ci D6 D7
 by_cases h8:p.Op=8
 ·rw [Bf (eqT h8),Bf (eqT h8),A53 (.inl h8)];exact A20 decide_eq_true_iff decide_eq_true_iff
 rw [Ao (eqF h8)]
 by_cases h10:p.Op=10
 ·rw [Bf (eqT h10),A53 (.inr h10)];exact A20 decide_eq_true_iff decide_eq_true_iff
 rw [Ao (eqF h10)]
 by_cases h9:p.Op=9
 ·rw [Bf (eqT h9),Bf (eqT h9),A54 (.inl h9)];exact A20 decide_eq_true_iff decide_eq_true_iff
 rw [Ao (eqF h9)]
 by_cases h11:p.Op=11
 ·rw [Bf (eqT h11),A54 (.inr h11)];exact A20 decide_eq_true_iff decide_eq_true_iff
 rw [Ao (eqF h11)]
 by_cases h12:p.Op=12
 ·rw [Bf (eqT h12),h12,A5l];exact A20 beq_iff_eq A6l
 have h13:p.Op=13:=by omega
 rw [Ao (eqF h12),Bf (eqT h13),h13,A5m];exact A20 orB bne_iff_ne
theorem A3r {R m:Nat} {f g:Int→sift_val} {k:Int} (hk:0≤k∧k<(R*m:Nat)) (F:Nat) (p:sift_Node) (hop:8≤p.Op∧p.Op≤13) :
  D5 F k (tab (R*m) f) (tab (R*m) g) p=some (Vo p.Op (f k) (g k)):=by
 unfold D5 Vo;rw [Rn hk]
 cases hf:(f k).has
 ·rw [gdF (g:=(!false)==false&&true) rfl,sbd];simp
 ·rw [gdT (g:=(!true)==false&&true) rfl,Rn hk]
  cases hg:(g k).has
  ·simp
  ·rw [Ao (c:=bif !true then true else !true) rfl,Rn hk,Rn hk,if_neg (by simp)]
   by_cases h:p.Op=10∨p.Op=11
   ·rw [Bf (by rcases h with h|h<;>rw [h]<;>rfl),if_pos h,A0b hop]
   ·rw [Ao (by rw [eqF (show p.Op≠10 by omega),eqF (show p.Op≠11 by omega)];rfl),if_neg h,A0b hop]
def bdV (n:Nat) (x:sift_val):Prop:=-((n:Int)*2147483648)≤x.span.Lo∧x.span.Lo≤(n:Int)*2147483648∧-((n:Int)*2147483648)≤x.span.Hi∧x.span.Hi≤(n:Int)*2147483648
theorem Z9 {x:Int} (h:-9000000000000000000≤x∧x≤9000000000000000000):IntKind.i64.wrap (0-x)=-x:=by
 rw [Go.Eng.wrap64 (by omega)];omega
theorem A4q {R m:Nat} {f g:Int→sift_val} {k:Int} (hk:0≤k∧k<(R*m:Nat)) (F:Nat) (p:sift_Node) {u v:Nat} (hf:bdV u (f k)) (hg:bdV v (g k)) (huv:u+v≤1000000) :
  G1 F k (tab (R*m) f) (tab (R*m) g) p=some (Vs p.Op (f k) (g k)):=by
 obtain ⟨f1,f2,f3,f4⟩:=hf;obtain ⟨g1,g2,g3,g4⟩:=hg;unfold G1 Vs Fb;rw [Rn hk]
 cases hf:(f k).has
 ·rw [gdF (g:=(!false)==false&&true) rfl,sbd];simp [noV]
 ·rw [gdT (g:=(!true)==false&&true) rfl,Rn hk]
  cases hg:(g k).has
  ·simp [noV]
  ·rw [Ao (c:=bif !true then true else !true) rfl,Rn hk,Rn hk,if_neg (by simp)]
   by_cases h:p.Op=27
   ·rw [Bf (eqT h),if_pos h,Z9 (by omega),Z9 (by omega),ckb (by omega),ckb (by omega),Int.sub_eq_add_neg,Int.sub_eq_add_neg]
   ·rw [Ao (eqF h),if_neg h,ckb (by omega),ckb (by omega)]
theorem A1r {p:sift_Node} {f:Int→Int} (l:List Int) (x:Int):l.foldl (fun (s:Int×Nat) o=>if p.Op=6 then (mn s.1 (f o),0) else (mx s.1 (f o),0)) (x,0)=(if p.Op=6 then l.foldl (fun a o=>mn a (f o)) x else l.foldl (fun a o=>mx a (f o)) x,0):=by
 induction l generalizing x with
 | nil=>simp
 | cons o l ih =>
  simp only [List.foldl_cons]
  by_cases h:p.Op=6
  ·simp only [if_pos h] at ih ⊢;exact ih _
  ·simp only [if_neg h] at ih ⊢;exact ih _
theorem A48 {s:api_Sweep} {R m:Nat} (h:Swp s R m) {k:Int} (hk:0≤k∧k<(R*m:Nat)) {F:Nat} (hF:1002≤F) {d:sift_scan} (hd:d.s=s) (p:sift_Node) (hop:p.Op=6∨p.Op=7) (hr:0≤p.Rays∧p.Rays≤3) (hg:0≤p.Gates∧p.Gates≤3) (f:Int→Int) :
  F4 F k p (some d) (tab (R*m) f)=some (Tc p.Op (nbs s.Rays.length s.Site.Gates k p.Rays p.Gates) f):=by
 have key:∀x,D8 F k p (some d) (tab (R*m) f) x=some (if p.Op=6 then (nbs R m k p.Rays p.Gates).foldl (fun a o=>mn a (f o)) x else (nbs R m k p.Rays p.Gates).foldl (fun a o=>mx a (f o)) x):=by
  intro x;unfold D8;have:=h.R4;have:=h.m1;rw [X6 (R:=(R:Int)) (m:=(m:Int)) (P:=fun _ _=>True) (f:=fun (s:Int×Nat) o=>if p.Op=6 then (mn s.1 (f o),0) else (mx s.1 (f o),0)) (by rw [hd,h.hR]) (by rw [hd,h.hm]) (by omega) (by omega) ⟨hk.1,by rw [←Int.natCast_mul];exact hk.2⟩ hr hg ?_ hF trivial,sbd,A1r]
  ·rfl
  ·intro s o c _ h1 h2 _;rw [←Int.natCast_mul] at h2;refine ⟨?_,trivial⟩;unfold H0;rcases hop with e|e
   ·rw [Bf (eqT e),Rn ⟨h1,h2⟩];simp only [if_pos e];rfl
   ·have n6:p.Op≠6:=by omega
    rw [Ao (eqF n6),Rn ⟨h1,h2⟩];simp only [if_neg n6];rfl
 unfold F4 Tc;rw [h.hR,h.hm];rcases hop with e|e
 ·rw [Ao (eqF (by omega)),key];simp only [if_pos e]
 ·have n6:p.Op≠6:=by omega
  rw [Bf (eqT e),key];simp only [if_neg n6]
theorem A2c {f:Int→Int} (l:List Int) (x y:Int):l.foldl (fun (s:Int×Int×Nat) o=>(if f o=1 then s.1+1 else s.1,if f o≠3 then s.2.1+1 else s.2.1,0)) (x,y,0)=(x+l.countP (fun o=>f o==1),y+l.countP (fun o=>f o != 3),0):=by
 induction l generalizing x y with
 | nil=>simp
 | cons o l ih =>
  simp only [List.foldl_cons,List.countP_cons];rw [ih]
  by_cases h1:f o=1<;>by_cases h2:f o=3<;>simp [h1,h2]<;>omega
theorem A2d {s:api_Sweep} {R m:Nat} (h:Swp s R m) {k:Int} (hk:0≤k∧k<(R*m:Nat)) {F:Nat} (hF:1002≤F) {d:sift_scan} (hd:d.s=s) (p:sift_Node) (hr:0≤p.Rays∧p.Rays≤3) (hg:0≤p.Gates∧p.Gates≤3) (f:Int→Int) :
  Ec F k (some d) p (tab (R*m) f)=some (Q2 (nbs s.Rays.length s.Site.Gates k p.Rays p.Gates) f):=by
 unfold Ec;have:=h.R4;have:=h.m1;rw [X6 (R:=(R:Int)) (m:=(m:Int)) (P:=fun (s:Int×Int×Nat) c=>0≤s.1∧s.1≤c∧0≤s.2.1∧s.2.1≤c) (f:=fun (s:Int×Int×Nat) o=>(if f o=1 then s.1+1 else s.1,if f o≠3 then s.2.1+1 else s.2.1,0)) (by rw [hd,h.hR]) (by rw [hd,h.hm]) (by omega) (by omega) ⟨hk.1,by rw [←Int.natCast_mul];exact hk.2⟩ hr hg ?_ hF (by simp),sbd,A2c]
 ·rw [Bf rfl];unfold Q2;rw [h.hR,h.hm];simp
 ·intro s o c hP h1 h2 hc;obtain ⟨p1,p2,p3,p4⟩:=hP;rw [←Int.natCast_mul] at h2;refine ⟨?_,?_⟩
  ·have k2:∀x,Cw (tab (R*m) f) s o x=some ((x,if f o≠3 then s.2.1+1 else s.2.1,0),true):=by
    intro x;unfold Cw;rw [Rn ⟨h1,h2⟩]
    by_cases e:f o=3
    ·rw [Ao (neF e),if_neg (by simp [e])]
    ·rw [Bf (neT e),ckb (by omega),if_pos e]
   unfold Gq;rw [Rn ⟨h1,h2⟩]
   by_cases e:f o=1
   ·rw [Bf (eqT e),ckb (by omega),k2,if_pos e]
   ·rw [Ao (eqF e),k2,if_neg e]
  ·dsimp only;refine ⟨?_,?_,?_,?_⟩<;>split<;>omega
end Go.Proofs.YtkjnafecmjakcaaGreatDoor
namespace Go.Proofs.YtkjnafecmjakcaaGreatDoor
open Go Go.RowKit Go.Eng
set_option maxRecDepth 10000
set_option linter.unusedVariables false
set_option linter.unusedSimpArgs false
theorem A0k {α:Type} {P:α→Prop} {f:α→Int→α} (hf:∀a o,P a→P (f a o)):∀(l:List Int) (x:α),P x→P (l.foldl f x):=by
 intro l
 induction l with
 | nil=>intro x h;exact h
 | cons o l ih=>intro x h;exact ih _ (hf _ _ h)
theorem A04 {a b:Prop} [Decidable a] [Decidable b]:1≤tri a b∧tri a b≤3:=by unfold tri;split<;>(try split)<;>omega
theorem A3q {op:Int} {x y:api_Span}:1≤S3 op x y∧S3 op x y≤3:=by
 unfold S3
 split
 ·exact A04
 ·split
  ·exact A04
  ·split<;>exact A04
theorem A4l (s:api_Sweep):∀(t:T),okT true t→∀k,1≤(t.sem s k).1∧(t.sem s k).1≤3:=by
 intro t
 induction t with
 | leaf op v=>intro h k;simp only [T.sem];split<;>omega
 | un op r g a ih =>
  intro h k;simp only [okT] at h;have ih:=ih h.2;simp only [T.sem]
  split
  ·have:=ih k;omega
  ·unfold Tc
   split
   ·exact A0k (P:=fun x=>1≤x∧x≤3) (fun a o ha=>by have:=ih o;unfold mn;split<;>omega) _ _ (by omega)
   ·exact A0k (P:=fun x=>1≤x∧x≤3) (fun a o ha=>by have:=ih o;unfold mx;split<;>omega) _ _ (by omega)
 | bin op a b iha ihb =>
  intro h k;simp only [okT] at h;simp only [T.sem];rcases h with h|h
  ·have:=iha h.2.1 k;have:=ihb h.2.2 k
   split
   ·unfold mx;split<;>omega
   ·rw [if_pos (by omega)];unfold mn;split<;>omega
  ·rw [if_neg (by omega),if_neg (by omega)];unfold Vo
   split
   ·omega
   ·split<;>exact A3q
theorem Nj {f:Int→List Int} {c:Nat} (hf:∀x,(f x).length≤c):∀l:List Int,(l.flatMap f).length≤l.length*c:=by
 intro l
 induction l with
 | nil=>simp
 | cons x l ih =>
  rw [List.flatMap_cons,List.length_append,List.length_cons,Nat.add_mul];have:=hf x;omega
theorem A47 {R m k r g:Int} (hR:1≤R∧R≤500) (hm:1≤m∧m≤1000) (hr:0≤r∧r≤3):(nbs R m k r g).length≤1000000:=by
 have h1:∀b,(nb1 R m k g b).length≤1000:=by
  intro b;unfold nb1;refine Nat.le_trans (List.length_filter_le _ _) ?_;rw [List.length_map];unfold irg;rw [List.length_map,List.length_range]
  split<;>split<;>omega
 unfold nbs;refine Nat.le_trans (Nj h1 _) ?_;have:(if k/m+r-(k/m-r)≥R then irg 0 (R-1) else irg (k/m-r) (k/m+r)).length≤1000:=by
  unfold irg
  split<;>rw [List.length_map,List.length_range]<;>omega
 omega
theorem Uu {x:Int} (h:-2147483648≤x∧x≤2147483648):bdV 1 (pt x):=by unfold bdV pt;dsimp only;omega
theorem Zd {n:Nat}:bdV n noV:=by unfold bdV noV;dsimp only;omega
theorem Vz {x:api_Span} {b:Bool} (h:bdS x):bdV 1 ⟨x,b⟩:=by unfold bdV;unfold bdS at h;dsimp only;omega
theorem Ln {n:Nat} {c:Prop} [Decidable c] {x y:sift_val} (h1:c→bdV n x) (h2:¬c→bdV n y):bdV n (if c then x else y):=by
 by_cases h:c
 ·rw [if_pos h];exact h1 h
 ·rw [if_neg h];exact h2 h
theorem A39 {s:api_Sweep} {R m:Nat} (h:Swp s R m):∀(t:T),okT false t→∀k:Int,0≤k∧k<(R*m:Nat)→bdV t.size (t.sem s k).2:=by
 intro t
 induction t with
 | leaf op v =>
  intro ho k hk;obtain ⟨row,-,-,e⟩:=Vw h hk;obtain ⟨e1,e2,e3,e4,e5,e6,e7,e8,e9,e10⟩:=e;obtain ⟨a,b,c,d⟩:=km h.m1.1 hk;have:=h.R4;have:=h.m1;have:=h.tilt;simp only [okT] at ho;simp only [T.sem,T.size,Q4];rw [h.hm];exact Ln (fun _=>Uu (by omega)) fun _=>Ln (fun _=>Uu (by omega)) fun _=>Ln (fun _=>Uu (by omega)) fun _=>Ln (fun _=>Uu (by omega)) fun _=>Ln (fun _=>Uu (by omega)) fun _=>Ln (fun _=>Vz e1) fun _=>Ln (fun _=>Zd) fun _=>Ln (fun _=>Vz e2) fun _=>Ln (fun _=>Vz e3) fun _=>Ln (fun _=>Uu (by omega)) fun _=>Ln (fun _=>Zd) fun _=>Ln (fun _=>Vz e4) fun _=>Vz e5
 | un op r g a ih =>
  intro ho k hk;simp only [okT] at ho;simp only [T.sem,T.size,Q2];have:=h.R4;have:=h.m1;have h1:=A47 (R:=s.Rays.length) (m:=s.Site.Gates) (k:=k) (r:=r) (g:=g) (by rw [h.hR];omega) (by rw [h.hm];omega) (by omega);have h2:=List.countP_le_length (p:=fun o=>(a.sem s o).1==1) (l:=nbs s.Rays.length s.Site.Gates k r g);have h3:=List.countP_le_length (p:=fun o=>(a.sem s o).1 != 3) (l:=nbs s.Rays.length s.Site.Gates k r g);have:=a.size_pos;unfold bdV;dsimp only;omega
 | bin op a b iha ihb =>
  intro ho k hk;simp only [okT] at ho;have h1:=iha ho.2.1 k hk;have h2:=ihb ho.2.2.1 k hk;simp only [T.sem,T.size,Vs]
  split
  ·exact Zd
  ·unfold bdV at *
   split<;>dsimp only<;>omega
section
variable {κ ν:Type} [DecidableEq κ]
theorem A57 (B:List (κ×ν)) (x y:κ) (v:ν):lkM (upM B x v) y=if y=x then some v else lkM B y:=by
 induction B with
 | nil=>unfold upM lkM;split<;>rfl
 | cons p B ih =>
  unfold upM
  by_cases hx:x=p.1
  ·rw [if_pos hx];unfold lkM
   by_cases hy:y=x
   ·simp [hy]
   ·simp only [if_neg hy];rw [if_neg (by rw [←hx];exact hy)]
  ·rw [if_neg hx];unfold lkM
   by_cases hy:y=p.1
   ·rw [if_pos hy,if_pos hy,if_neg (fun e=>hx (by rw [←e,hy]))]
   ·rw [if_neg hy,if_neg hy,ih]
end
structure Inv (s:api_Sweep) (N:Nat) (d:sift_scan):Prop where
 hs:d.s=s
 hn:d.n=(N:Int)
 ht:∀t l,okT true t→lkM d.tests (tb (textT t))=some l→l=tab N fun k=>(t.sem s k).1
 hv:∀t l,okT false t→lkM d.values (tb (textT t))=some l→l=tab N fun k=>(t.sem s k).2
section
variable {s:api_Sweep} {R m N:Nat} {d d':sift_scan}
theorem Inv.eta (h:Inv s N d) (h':Inv s N d'):sift_scan.mk d.s d.n d'.tests d'.values=d':=by
 cases d;cases d'
 have e1:=h.hs;have e2:=h.hn;have e3:=h'.hs;have e4:=h'.hn;simp only at e1 e2 e3 e4 ⊢;rw [e1,e2,e3,e4]
theorem Inv.upT (h:Inv s N d) {t:T} (ht:okT true t):Inv s N ⟨d.s,d.n,upM d.tests (tb (textT t)) (tab N fun k=>(t.sem s k).1),d.values⟩:=by
 refine ⟨h.hs,h.hn,fun t' l h1 h2=>?_,h.hv⟩;rw [A57] at h2
 by_cases e:tb (textT t')=tb (textT t)
 ·rw [if_pos e] at h2
  cases Z5 h1 ht (A3e e)
  cases h2;rfl
 ·rw [if_neg e] at h2;exact h.ht t' l h1 h2
theorem Inv.upV (h:Inv s N d) {t:T} (ht:okT false t):Inv s N ⟨d.s,d.n,d.tests,upM d.values (tb (textT t)) (tab N fun k=>(t.sem s k).2)⟩:=by
 refine ⟨h.hs,h.hn,h.ht,fun t' l h1 h2=>?_⟩;rw [A57] at h2
 by_cases e:tb (textT t')=tb (textT t)
 ·rw [if_pos e] at h2
  cases Z5 h1 ht (A3e e)
  cases h2;rfl
 ·rw [if_neg e] at h2;exact h.hv t' l h1 h2
theorem A3h {p:sift_Node} {F:Nat} (hd:Inv s N d) (hN:N≤1000) (hF:2000≤F) (hop:p.Op=1∨p.Op=2):Ef F (some d) p=some (tab N fun _=>if p.Op=1 then 1 else 3):=by
 unfold Ef Hb;rw [sbd,Pu (L:=Dr F p) (f:=fun i=>Eg F i p) (fun _ _ _ _=>rfl) ?_ (by omega) (by omega) hd.hn (by omega)]
 ·rfl
 ·intro i _ _;show Eg F i p=_;unfold Eg;rcases hop with e|e
  ·rw [Fi 1 1 (by rw [e];rfl) rfl,if_pos e]
  ·rw [Fi 2 3 (by rw [e];rfl) rfl,if_neg (by omega)]
theorem A60 {S:Af} {V:Ae} {p u:sift_Node} {F:Nat} {f:Int→Int} (hd:Inv s N d) (hN:N≤1000) (hF:2000≤F) (ha:p.Args=[u]) (hS:S d u=some (tab N f,d')) (hd':Inv s N d') (hf:∀k,1≤f k∧f k≤3) :
  Hl F S V d p=some (tab N fun k=>4-f k,d'):=by
 unfold Hl Hc;rw [ha,Wq,hS,sbd];dsimp only;rw [Pu (L:=Dt F (tab N f)) (f:=fun i=>G0 F i (tab N f)) (g:=fun k=>4-f k) (fun _ _ _ _=>rfl) ?_ (by omega) (by omega) hd.hn (by omega),sbd,hd.eta hd'];intro i h1 h2;show G0 F i _=_;unfold G0;have:=hf i;rw [Rn ⟨h1,h2⟩,ckb (by omega)]
theorem A3n {S:Af} {V:Ae} {p u v:sift_Node} {F:Nat} {f g:Int→Int} {d1:sift_scan} (hd:Inv s N d) (hN:N≤1000) (hF:2000≤F) (ha:p.Args=[u,v]) (hS:S d u=some (tab N f,d1)) (hd1:Inv s N d1) (hS2:S d1 v=some (tab N g,d')) (hd':Inv s N d') :
  F6 F S V d p=some (tab N fun k=>if p.Op=4 then mx (f k) (g k) else mn (f k) (g k),d'):=by
 unfold F6 He;rw [ha,Wq,A3y,hS,sbd];dsimp only;rw [hd.eta hd1,hS2,sbd];dsimp only;rw [Pu (L:=Du F p (tab N f) (tab N g)) (f:=fun i=>F3 F i p (tab N f) (tab N g)) (g:=fun k=>if p.Op=4 then mx (f k) (g k) else mn (f k) (g k)) (fun _ _ _ _=>rfl) ?_ (by omega) (by omega) hd.hn (by omega),sbd,hd.eta hd'];intro i h1 h2;show F3 F i p _ _=_;unfold F3
 by_cases e:p.Op=4
 ·rw [Bf (eqT e),Rn ⟨h1,h2⟩,Rn ⟨h1,h2⟩];simp only [if_pos e];rfl
 ·rw [Ao (eqF e),Rn ⟨h1,h2⟩,Rn ⟨h1,h2⟩];simp only [if_neg e];rfl
theorem A2t {S:Af} {V:Ae} {p u:sift_Node} {F:Nat} {f:Int→Int} (h:Swp s R m) (hd:Inv s (R*m) d) (hF:2000≤F) (ha:p.Args=[u]) (hop:p.Op=6∨p.Op=7) (hr:0≤p.Rays∧p.Rays≤3) (hg:0≤p.Gates∧p.Gates≤3) (hS:S d u=some (tab (R*m) f,d')) (hd':Inv s (R*m) d') :
  F7 F S V d p=some (tab (R*m) fun k=>Tc p.Op (nbs s.Rays.length s.Site.Gates k p.Rays p.Gates) f,d'):=by
 have hN:=h.N1;unfold F7 Hf;rw [ha,Wq,hS,sbd];dsimp only;rw [hd.eta hd',Pu (L:=Dv F p (some d') (tab (R*m) f)) (f:=fun i=>F4 F i p (some d') (tab (R*m) f)) (g:=fun k=>Tc p.Op (nbs s.Rays.length s.Site.Gates k p.Rays p.Gates) f) (fun _ _ _ _=>rfl) (fun i h1 h2=>A48 h ⟨h1,h2⟩ (by omega) hd'.hs p hop hr hg f) (by omega) (by omega) hd.hn (by omega),sbd]
theorem A3p {S:Af} {V:Ae} {p u v:sift_Node} {F:Nat} {f g:Int→sift_val} {d1:sift_scan} (h:Swp s R m) (hd:Inv s (R*m) d) (hF:2000≤F) (ha:p.Args=[u,v]) (hop:8≤p.Op∧p.Op≤13) (hS:V d u=some (tab (R*m) f,d1)) (hd1:Inv s (R*m) d1) (hS2:V d1 v=some (tab (R*m) g,d')) (hd':Inv s (R*m) d') :
  Bq F S V d p=some (tab (R*m) fun k=>Vo p.Op (f k) (g k),d'):=by
 have hN:=h.N1;unfold Bq Hg;rw [ha,Wq,A3y,hS,sbd];dsimp only;rw [hd.eta hd1,hS2,sbd];dsimp only;rw [Pu (L:=Dw F (tab (R*m) f) (tab (R*m) g) p) (f:=fun i=>D5 F i (tab (R*m) f) (tab (R*m) g) p) (g:=fun k=>Vo p.Op (f k) (g k)) (fun _ _ _ _=>rfl) (fun i h1 h2=>A3r ⟨h1,h2⟩ F p hop) (by omega) (by omega) hd.hn (by omega),sbd,hd.eta hd']
theorem A1c {p:sift_Node} {F:Nat} (h:Swp s R m) (hd:Inv s (R*m) d) (hF:2000≤F):Ed F (some d) p=some (tab (R*m) fun k=>Q4 s p.Op p.Value_ k):=by
 have hN:=h.N1;unfold Ed Em;rw [sbd,Pu (L:=Ce F (some (sift_scan.mk d.s d.n [] [])) p) (f:=fun i=>Ee F i (some (sift_scan.mk d.s d.n [] [])) p) (g:=fun k=>Q4 s p.Op p.Value_ k) (fun _ _ _ _=>rfl) (fun i h1 h2=>A2k h ⟨h1,h2⟩ F hd.hs p) (by omega) (by omega) hd.hn (by omega),sbd]
theorem A18 {S:Af} {V:Ae} {p u:sift_Node} {F:Nat} {f:Int→Int} (h:Swp s R m) (hd:Inv s (R*m) d) (hF:2000≤F) (ha:p.Args=[u]) (hr:0≤p.Rays∧p.Rays≤3) (hg:0≤p.Gates∧p.Gates≤3) (hS:S d u=some (tab (R*m) f,d')) (hd':Inv s (R*m) d') :
  Fz F S V d p=some (tab (R*m) fun k=>Q2 (nbs s.Rays.length s.Site.Gates k p.Rays p.Gates) f,d'):=by
 have hN:=h.N1;unfold Fz Eo;rw [ha,Wq,hS,sbd];dsimp only;rw [hd.eta hd',Pu (L:=Cf F (some d') p (tab (R*m) f)) (f:=fun i=>Ec F i (some d') p (tab (R*m) f)) (g:=fun k=>Q2 (nbs s.Rays.length s.Site.Gates k p.Rays p.Gates) f) (fun _ _ _ _=>rfl) (fun i h1 h2=>A2d h ⟨h1,h2⟩ (by omega) hd'.hs p hr hg f) (by omega) (by omega) hd.hn (by omega),sbd]
theorem A4p {S:Af} {V:Ae} {p u v:sift_Node} {F:Nat} {f g:Int→sift_val} {d1:sift_scan} {a b:Nat} (h:Swp s R m) (hd:Inv s (R*m) d) (hF:2000≤F) (ha:p.Args=[u,v]) (hS:V d u=some (tab (R*m) f,d1)) (hd1:Inv s (R*m) d1) (hS2:V d1 v=some (tab (R*m) g,d')) (hd':Inv s (R*m) d')
  (hf:∀k:Int,0≤k∧k<(R*m:Nat)→bdV a (f k)) (hg:∀k:Int,0≤k∧k<(R*m:Nat)→bdV b (g k)) (hab:a+b≤1000000):Gl F S V d p=some (tab (R*m) fun k=>Vs p.Op (f k) (g k),d'):=by
 have hN:=h.N1;unfold Gl Ep;rw [ha,Wq,A3y,hS,sbd];dsimp only;rw [hd.eta hd1,hS2,sbd];dsimp only;rw [Pu (L:=Cg F (tab (R*m) f) (tab (R*m) g) p) (f:=fun i=>G1 F i (tab (R*m) f) (tab (R*m) g) p) (g:=fun k=>Vs p.Op (f k) (g k)) (fun _ _ _ _=>rfl) (fun i h1 h2=>A4q ⟨h1,h2⟩ F p (hf i ⟨h1,h2⟩) (hg i ⟨h1,h2⟩) hab) (by omega) (by omega) hd.hn (by omega),sbd,hd.eta hd']
end
end Go.Proofs.YtkjnafecmjakcaaGreatDoor
namespace Go.Proofs.YtkjnafecmjakcaaGreatDoor
open Go Go.RowKit Go.Eng
set_option maxRecDepth 10000
set_option linter.unusedVariables false
set_option linter.unusedSimpArgs false
section
variable {F:Nat} {S:Af} {V:Ae} {d:sift_scan} {p:sift_Node} {key:ByteArray}
theorem Wn (h1:Ck F p=some key) {l:List Int} (h2:lkM d.tests key=some l):B3 F S V d p=some (l,d):=by
 unfold B3;rw [h1,sbd,Bf (by rw [h2];rfl),h2];rfl
theorem V9 (h1:Ck F p=some key) {l:List sift_val} (h2:lkM d.values key=some l):Bk F S V d p=some (l,d):=by
 unfold Bk;rw [h1,sbd,Bf (by rw [h2];rfl),h2];rfl
theorem A01 (h1:Ck F p=some key) (h2:lkM d.tests key=none) (hop:p.Op=1∨p.Op=2) {l:List Int} (h:Ef F (some d) p=some l) :
  B3 F S V d p=some (l,⟨d.s,d.n,upM d.tests key l,d.values⟩):=by
 unfold B3;rw [h1,sbd,Ao (by rw [h2];rfl),h,sbd];rcases hop with e|e<;>simp only [e]<;>rfl
theorem A3g (h1:Ck F p=some key) (h2:lkM d.tests key=none) (hop:p.Op=3) {l:List Int} {d':sift_scan} (h:Hl F S V d p=some (l,d')) :
  B3 F S V d p=some (l,⟨d.s,d.n,upM d'.tests key l,d'.values⟩):=by
 unfold B3;rw [h1,sbd,Ao (by rw [h2];rfl),h,sbd];simp only [hop];rfl
theorem A1y (h1:Ck F p=some key) (h2:lkM d.tests key=none) (hop:p.Op=4∨p.Op=5) {l:List Int} {d':sift_scan} (h:F6 F S V d p=some (l,d')) :
  B3 F S V d p=some (l,⟨d.s,d.n,upM d'.tests key l,d'.values⟩):=by
 unfold B3;rw [h1,sbd,Ao (by rw [h2];rfl),h,sbd];rcases hop with e|e<;>simp only [e]<;>rfl
theorem A1z (h1:Ck F p=some key) (h2:lkM d.tests key=none) (hop:p.Op=6∨p.Op=7) {l:List Int} {d':sift_scan} (h:F7 F S V d p=some (l,d')) :
  B3 F S V d p=some (l,⟨d.s,d.n,upM d'.tests key l,d'.values⟩):=by
 unfold B3;rw [h1,sbd,Ao (by rw [h2];rfl),h,sbd];rcases hop with e|e<;>simp only [e]<;>rfl
theorem A3f (h1:Ck F p=some key) (h2:lkM d.tests key=none) (hop:8≤p.Op∧p.Op≤13) {l:List Int} {d':sift_scan} (h:Bq F S V d p=some (l,d')) :
  B3 F S V d p=some (l,⟨d.s,d.n,upM d'.tests key l,d'.values⟩):=by
 have hop:p.Op=8∨p.Op=9∨p.Op=10∨p.Op=11∨p.Op=12∨p.Op=13:=by omega
 unfold B3;rw [h1,sbd,Ao (by rw [h2];rfl),h,sbd];rcases hop with e|e|e|e|e|e<;>simp only [e]<;>rfl
theorem Z7 (h1:Ck F p=some key) (h2:lkM d.values key=none) (hop:p.Op=25) {l:List sift_val} {d':sift_scan} (h:Fz F S V d p=some (l,d')) :
  Bk F S V d p=some (l,⟨d.s,d.n,d'.tests,upM d'.values key l⟩):=by
 unfold Bk;rw [h1,sbd,Ao (by rw [h2];rfl),h,sbd,Bf (eqT hop)]
theorem A21 (h1:Ck F p=some key) (h2:lkM d.values key=none) (hop:p.Op=26∨p.Op=27) {l:List sift_val} {d':sift_scan} (h:Gl F S V d p=some (l,d')) :
  Bk F S V d p=some (l,⟨d.s,d.n,d'.tests,upM d'.values key l⟩):=by
 unfold Bk;rw [h1,sbd,Ao (by rw [h2];rfl),h,sbd];rcases hop with e|e
 ·rw [Ao (eqF (by omega)),Bf (eqT e),Bf (eqT e)]
 ·rw [Ao (eqF (by omega)),Ao (eqF (by omega)),Bf (eqT e)]
theorem Z8 (h1:Ck F p=some key) (h2:lkM d.values key=none) (hop:p.Op<25) {l:List sift_val} (h:Ed F (some d) p=some l) :
  Bk F S V d p=some (l,⟨d.s,d.n,d.tests,upM d.values key l⟩):=by
 unfold Bk;rw [h1,sbd,Ao (by rw [h2];rfl),h,sbd,Ao (eqF (by omega)),Ao (eqF (by omega)),Ao (eqF (by omega))]
end
theorem A00 (F:Nat):Cy (F+1)=B3 F (Cy F) (Ky F):=rfl
theorem Y7 (F:Nat):Ky (F+1)=Bk F (Cy F) (Ky F):=rfl
theorem A0t {s:api_Sweep} {R m:Nat} (h:Swp s R m):∀(t:T) (F:Nat) (d:sift_scan),t.size+2500≤F→t.size≤1000→Inv s (R*m) d →
  (okT true t→∃d',Cy F d t.node=some (tab (R*m) fun k=>(t.sem s k).1,d')∧Inv s (R*m) d') ∧
  (okT false t→∃d',Ky F d t.node=some (tab (R*m) fun k=>(t.sem s k).2,d')∧Inv s (R*m) d'):=by
 have hN:=h.N1;intro t
 induction t with
 | leaf op v =>
  intro F d hF hs hd;obtain ⟨F,rfl⟩:∃G,F=G+1:=⟨F-1,by omega⟩;simp only [T.size] at hF hs;rw [A00,Y7];constructor
  ·intro ht;have hx:=T3 _ true F ht (by simp only [T.size];omega) (by simp only [T.size];omega)
   cases hl:lkM d.tests (tb (textT (.leaf op v))) with
   | some l=>exact ⟨d,by rw [Wn hx hl,hd.ht _ l ht hl],hd⟩
   | none =>
    have hop:op=1∨op=2:=by simp only [okT] at ht;omega
    exact ⟨_,A01 hx hl hop (A3h hd hN (by omega) hop),hd.upT ht⟩
  ·intro ht;have hx:=T3 _ false F ht (by simp only [T.size];omega) (by simp only [T.size];omega)
   cases hl:lkM d.values (tb (textT (.leaf op v))) with
   | some l=>exact ⟨d,by rw [V9 hx hl,hd.hv _ l ht hl],hd⟩
   | none =>
    have hop:op<25:=by simp only [okT] at ht;omega
    exact ⟨_,Z8 hx hl hop (A1c h hd (by omega)),hd.upV ht⟩
 | un op r g a ih =>
  intro F d hF hs hd;obtain ⟨F,rfl⟩:∃G,F=G+1:=⟨F-1,by omega⟩;simp only [T.size] at hF hs;rw [A00,Y7];constructor
  ·intro ht;have hx:=T3 _ true F ht (by simp only [T.size];omega) (by simp only [T.size];omega)
   cases hl:lkM d.tests (tb (textT (.un op r g a))) with
   | some l=>exact ⟨d,by rw [Wn hx hl,hd.ht _ l ht hl],hd⟩
   | none =>
    have ho:=ht;simp only [okT] at ho;obtain ⟨d',h1,h2⟩:=(ih F d (by omega) (by omega) hd).1 ho.2;rcases ho.1 with o|o
    ·refine ⟨_,(A3g hx hl o.1 (A60 hd hN (by omega) rfl h1 h2 (A4l s a ho.2))).trans ?_,h2.upT ht⟩;simp only [T.sem,if_pos o.1,hd.hs,hd.hn,h2.hs,h2.hn]
    ·refine ⟨_,(A1z hx hl o.1 (A2t h hd (by omega) rfl o.1 ⟨o.2.1,o.2.2.1⟩ o.2.2.2 h1 h2)).trans ?_,h2.upT ht⟩;simp only [T.sem,if_neg (show op≠3 by omega),hd.hs,hd.hn,h2.hs,h2.hn];rfl
  ·intro ht;have hx:=T3 _ false F ht (by simp only [T.size];omega) (by simp only [T.size];omega)
   cases hl:lkM d.values (tb (textT (.un op r g a))) with
   | some l=>exact ⟨d,by rw [V9 hx hl,hd.hv _ l ht hl],hd⟩
   | none =>
    have ho:=ht;simp only [okT] at ho;obtain ⟨d',h1,h2⟩:=(ih F d (by omega) (by omega) hd).1 ho.2;refine ⟨_,(Z7 hx hl ho.1.1 (A18 h hd (by omega) rfl ⟨ho.1.2.1,ho.1.2.2.1⟩ ⟨ho.1.2.2.2.1,ho.1.2.2.2.2⟩ h1 h2)).trans ?_,h2.upV ht⟩;simp only [T.sem,hd.hs,hd.hn,h2.hs,h2.hn];rfl
 | bin op a b iha ihb =>
  intro F d hF hs hd;obtain ⟨F,rfl⟩:∃G,F=G+1:=⟨F-1,by omega⟩;simp only [T.size] at hF hs;rw [A00,Y7];constructor
  ·intro ht;have hx:=T3 _ true F ht (by simp only [T.size];omega) (by simp only [T.size];omega)
   cases hl:lkM d.tests (tb (textT (.bin op a b))) with
   | some l=>exact ⟨d,by rw [Wn hx hl,hd.ht _ l ht hl],hd⟩
   | none =>
    have ho:=ht;simp only [okT] at ho;rcases ho with o|o
    ·obtain ⟨d1,h1,h2⟩:=(iha F d (by omega) (by omega) hd).1 o.2.1;obtain ⟨d2,h3,h4⟩:=(ihb F d1 (by omega) (by omega) h2).1 o.2.2;refine ⟨_,(A1y hx hl o.1 (A3n hd hN (by omega) rfl h1 h2 h3 h4)).trans ?_,h4.upT ht⟩;have e:(fun k=>if (T.bin op a b).node.Op=4 then mx (a.sem s k).1 (b.sem s k).1 else mn (a.sem s k).1 (b.sem s k).1)=fun k=>((T.bin op a b).sem s k).1:=by
      funext k
      simp only [T.sem,T.node]
      by_cases h4:op=4
      ·simp only [if_pos h4];exact if_pos h4
      ·simp only [if_neg h4,if_pos (show op=5 by omega)];exact if_neg h4
     rw [e,hd.hs,hd.hn,h4.hs,h4.hn]
    ·obtain ⟨d1,h1,h2⟩:=(iha F d (by omega) (by omega) hd).2 o.2.2.1;obtain ⟨d2,h3,h4⟩:=(ihb F d1 (by omega) (by omega) h2).2 o.2.2.2;refine ⟨_,(A3f hx hl ⟨o.1,o.2.1⟩ (A3p h hd (by omega) rfl ⟨o.1,o.2.1⟩ h1 h2 h3 h4)).trans ?_,h4.upT ht⟩;simp only [T.sem,if_neg (show op≠4 by omega),if_neg (show op≠5 by omega),hd.hs,hd.hn,h4.hs,h4.hn];rfl
  ·intro ht;have hx:=T3 _ false F ht (by simp only [T.size];omega) (by simp only [T.size];omega)
   cases hl:lkM d.values (tb (textT (.bin op a b))) with
   | some l=>exact ⟨d,by rw [V9 hx hl,hd.hv _ l ht hl],hd⟩
   | none =>
    have ho:=ht;simp only [okT] at ho;obtain ⟨d1,h1,h2⟩:=(iha F d (by omega) (by omega) hd).2 ho.2.1;obtain ⟨d2,h3,h4⟩:=(ihb F d1 (by omega) (by omega) h2).2 ho.2.2.1;refine ⟨_,(A21 hx hl ho.1 (A4p h hd (by omega) rfl h1 h2 h3 h4 (A39 h a ho.2.1) (A39 h b ho.2.2.1) (by omega))).trans ?_,h4.upV ht⟩;simp only [T.sem,hd.hs,hd.hn,h4.hs,h4.hn];rfl
end Go.Proofs.YtkjnafecmjakcaaGreatDoor
namespace Go.Proofs.YtkjnafecmjakcaaGreatDoor
open Go Go.RowKit Go.Eng
set_option maxRecDepth 10000
set_option linter.unusedVariables false
set_option linter.unusedSimpArgs false
def rlN (p:ByteArray×T):sift_Rule:=⟨p.1,p.2.node⟩
def rl (L:List (ByteArray×T)):List sift_Rule:=L.map rlN
theorem Q9 (L:List (ByteArray×T)):(rl L).length=L.length:=by simp [rl]
theorem Wg {L:List (ByteArray×T)} {i:Nat} {p:ByteArray×T} (h:L[i]? = some p):(rl L)[i]? = some (rlN p):=by simp [rl,h]
structure GoodR (L:List (ByteArray×T)):Prop where
 len:L.length≤32
 size:(L.map (·.2.size)).sum≤300
 names:∀p∈L,∀F,30≤F→beam_Name F p.1=some true∧sift_word F p.1=some false
 distinct:∀(i j:Nat) (p q:ByteArray×T),L[i]? = some p→L[j]? = some q→i<j→p.1≠q.1
 trees:∀p∈L,okT true p.2∧p.2.depth≤12
theorem A3d {L:List (ByteArray×T)} {i:Nat} {p:ByteArray×T} (h:L[i]? = some p):((L.drop i).map (·.2.size)).sum=p.2.size+((L.drop (i+1)).map (·.2.size)).sum:=by
 obtain ⟨h1,h2⟩:=List.getElem?_eq_some_iff.1 h;rw [List.drop_eq_getElem_cons h1,List.map_cons,List.sum_cons,h2]
theorem Y6 {L:List (ByteArray×T)} {p:ByteArray×T} (h:p∈L):p.2.size≤(L.map (·.2.size)).sum:=by
 induction L with
 | nil=>cases h
 | cons q L ih =>
  rw [List.map_cons,List.sum_cons];rcases List.mem_cons.1 h with rfl|h
  ·omega
  ·have:=ih h;omega
theorem A16 {l:List sift_Rule} {r:sift_Rule} (hl:l.length≤40) (h:∀(i:Nat) (x:sift_Rule),l[i]? = some x→sEq x.Name r.Name=false):∀(F j:Nat),l.length+1≤F+j→j≤l.length→At l r F j=some (-1):=by
 intro F
 induction F with
 | zero=>intro j h1 h2;omega
 | succ F ih =>
  intro j h1 h2;show B7 l r _ j=_;unfold B7
  by_cases hj:j<l.length
  ·rw [Bf (dT (by omega)),Fi j _ rfl (List.getElem?_eq_getElem hj)];unfold Mj;rw [Ao (h j _ (List.getElem?_eq_getElem hj)),ckb (by omega)];exact ih (j+1) (by omega) (by omega)
  ·rw [Ao (dF (by omega))];rfl
theorem A2b {L:List (ByteArray×T)} (h:GoodR L) {F:Nat} (hF:400≤F):J5 F (rl L)=some 0:=by
 have hlen:=h.len;have l3:∀(n j:Nat),L.length+1≤n+j→j≤L.length→Ld F (rl L) n j=some 0:=by
  intro n
  induction n with
  | zero=>intro j h1 h2;omega
  | succ n ih =>
   intro j h1 h2;show Lb F (rl L) _ j=_;unfold Lb;rw [Q9]
   by_cases hj:j<L.length
   ·have hp:=List.getElem?_eq_getElem hj;have hm:=List.getElem_mem hj;generalize L[j]=p at hp hm;obtain ⟨n1,n2⟩:=h.names p hm F (by omega);obtain ⟨t1,t2⟩:=h.trees p hm;have hsz:=Nat.le_trans (Y6 hm) h.size;have e1:sift_isCondition (rlN p).When=true:=t1.kind.1;rw [Bf (dT (by omega)),Fi j _ rfl (Wg hp),show beam_Name F (rlN p).Name=some true from n1,sbd,gdT (g:=(!true)==false&&true) rfl,show sift_word F (rlN p).Name=some false from n2,sbd,Ao (c:=bif !true then true else false) rfl,
     show T4 (rl L) 0 (j:Int)=some ((rl L).take j) by unfold T4;rw [if_pos (by rw [Q9];omega)];simp,sbd]
    unfold Bi Bo;rw [show At ((rl L).take j) (rlN p) F 0=some (-1) from A16 (by simp [Q9];omega) (by
     intro i x hx;obtain ⟨hi,hx2⟩:=List.getElem?_eq_some_iff.1 hx;have hij:i<j:=by simp [Q9] at hi;omega
     rw [List.getElem?_take_of_lt hij] at hx;have hq:=List.getElem?_eq_getElem (show i<L.length by omega);rw [Wg hq] at hx
     cases hx
     have:=h.distinct i j _ _ hq hp hij;exact dF fun e=>this (ByteArray.ext (Array.toList_inj.1 e))) F 0 (by simp [Q9];omega) (by omega),sbd,sbd,Ao (c:=decide ((-1:Int)≥0)) rfl,
     show Ju F (rlN p).When=some (p.2.depth:Int) from A0f p.2 F (by omega) (by omega),sbd,Ao (dF (by omega)),e1,gdT (g:=(!true)==false&&true) rfl,show Da F (rlN p).When=some true from Xk p.2 true F t1 (by omega),sbd,Ao (c:=bif !true then true else !true) rfl,ckb (by omega)]
    exact ih (j+1) (by omega) (by omega)
   ·rw [Ao (dF (by omega))];rfl
 have l4:∀(n j:Nat) (y:Int),L.length+1≤n+j→j≤L.length→0≤y→y+(((L.drop j).map (·.2.size)).sum:Nat)≤300→Le F (rl L) n j y=some 0:=by
  intro n
  induction n with
  | zero=>intro j y h1 h2;omega
  | succ n ih =>
   intro j y h1 h2 h3 h4;show Lc F (rl L) _ j y=_;unfold Lc;rw [Q9]
   by_cases hj:j<L.length
   ·have hp:=List.getElem?_eq_getElem hj;have hm:=List.getElem_mem hj;generalize L[j]=p at hp hm;have hsz:=Nat.le_trans (Y6 hm) h.size;rw [A3d hp] at h4;rw [Bf (dT (by omega)),Fi j _ rfl (Wg hp),show Ek F (rlN p).When 300=some (p.2.size:Int) from W3 p.2 F 300 (by omega) (by omega) (by omega),sbd,ckb (by omega),Ao (dF (by omega)),ckb (by omega)];exact ih (j+1) _ (by omega) (by omega) (by omega) (by omega)
   ·rw [Ao (dF (by omega))];exact l3 F 0 (by omega) (by omega)
 unfold J5;rw [Q9,Ao (dF (by omega))];exact l4 F 0 0 (by omega) (by omega) (by omega) (by rw [List.drop_zero];have:=h.size;omega)
def jv (k:Int):List (Int→Int)→Int→List Int→sift_Verdict
 | [],_,l=>⟨-1,l⟩
 | f::fs,j,l=>if f k=1 then ⟨j,l⟩ else if f k=2 then jv k fs (j+1) (l++[j]) else jv k fs (j+1) l
def jst (R m:Nat) (g:Int→sift_Verdict) (a i:Nat):List (List sift_Verdict) :=
 (List.range R).map fun b=>(List.range (if b<a then m else if b=a then i else 0)).map fun j=>g ((b*m+j:Nat):Int)
theorem Uc (R m:Nat) (g:Int→sift_Verdict) (a i:Nat):(jst R m g a i).length=R:=by simp [jst]
theorem Vu {R m:Nat} {g:Int→sift_Verdict} {a i b:Nat} (hb:b<R):(jst R m g a i)[b]? = some ((List.range (if b<a then m else if b=a then i else 0)).map fun j=>g ((b*m+j:Nat):Int)):=by
 simp [jst,hb]
theorem A2r {R m:Nat} {g:Int→sift_Verdict} {a:Nat}:jst R m g a m=jst R m g (a+1) 0:=by
 unfold jst;apply List.map_congr_left;intro b _
 congr 2
 split<;>(try split)<;>(try split)<;>(try split)<;>omega
theorem A42 {R m:Nat} {g:Int→sift_Verdict} {a i:Nat} (ha:a<R):(jst R m g a i).set a (((List.range i).map fun j=>g ((a*m+j:Nat):Int))++[g ((a*m+i:Nat):Int)])=jst R m g a (i+1):=by
 apply List.ext_getElem?;intro b
 by_cases hb:b<R
 ·rw [Vu hb]
  by_cases e:b=a
  ·subst e;rw [List.getElem?_set_self (by rw [Uc];exact hb),if_neg (by omega),if_pos rfl,List.range_succ,List.map_append];rfl
  ·rw [List.getElem?_set_ne (by omega),Vu hb];simp only [if_neg e]
 ·rw [List.getElem?_eq_none (by rw [List.length_set,Uc];omega),List.getElem?_eq_none (by rw [Uc];omega)]
section
variable {s:api_Sweep} {R m:Nat} {fs:List (Int→Int)}
def Qj (N:Nat) (fs:List (Int→Int)):List (List Int):=fs.map fun f=>tab N f
theorem A6y (h:Swp s R m) (hfs:fs.length≤32) {a i:Nat} (ha:a<R) (hi:i<m) {row:List api_Echo} (hrow:row.length=m) {st:List (List sift_Verdict)} {k5:List (List sift_Verdict)→Int→Option (List (List sift_Verdict)×Int)} {g:Int→sift_Verdict} (hst:st=jst R m g a i) :
  ∀(n j:Nat) (l:List Int),fs.length+1≤n+j→j≤fs.length→l.length≤j→jv ((a*m+i:Nat):Int) (fs.drop j) j l=g ((a*m+i:Nat):Int)→Jt (Qj (R*m) fs) a row st i k5 n l j=k5 (jst R m g a (i+1)) ((i:Int)+1):=by
 have hN:=h.N1;have hk:a*m+i<R*m:=by
  have h1:(a+1)*m≤R*m:=Nat.mul_le_mul_right m (by omega);rw [Nat.add_mul] at h1;omega
 have hm:=h.m1;have e1:(a:Int)*(m:Int)+(i:Int)=((a*m+i:Nat):Int):=by rw [Int.natCast_add,Int.natCast_mul]
 have e2:(a:Int)*(m:Int)=((a*m:Nat):Int):=(Int.natCast_mul ..).symm;have k7:∀(r:Int) (l:List Int),(⟨r,l⟩:sift_Verdict)=g ((a*m+i:Nat):Int)→Js a st i k5 r l=k5 (jst R m g a (i+1)) ((i:Int)+1):=by
  intro r l hv;have hg:=Vu (R:=R) (m:=m) (g:=g) (a:=a) (i:=i) ha;rw [if_neg (by omega),if_pos rfl] at hg;unfold Js Nd;rw [hst,Fi a _ rfl hg,hv];rw [show apd 32 ((List.range i).map fun j=>g ((a*m+j:Nat):Int)) [g ((a*m+i:Nat):Int)]=some (((List.range i).map fun j=>g ((a*m+j:Nat):Int))++[g ((a*m+i:Nat):Int)]) by
   unfold apd;rw [if_pos (by simp;omega)],sbd,Fi a _ rfl hg,show M7 (jst R m g a i) (a:Int) (((List.range i).map fun j=>g ((a*m+j:Nat):Int))++[g ((a*m+i:Nat):Int)])=some (jst R m g a (i+1)) by
   unfold M7;rw [if_pos (by rw [Uc];omega),Int.toNat_natCast,A42 ha],sbd,ckb (by omega)]
 intro n
 induction n with
 | zero=>intro j l h1 h2;omega
 | succ n ih =>
  intro j l h1 h2 h3 hv;show Li (Qj (R*m) fs) a row st i k5 _ l j=_;unfold Li Lk;have hl:(Qj (R*m) fs).length=fs.length:=by simp [Qj]
  rw [hl]
  by_cases hj:j<fs.length
  ·have hx:(Qj (R*m) fs)[j]? = some (tab (R*m) fs[j]):=by simp [Qj,hj]
   rw [List.drop_eq_getElem_cons hj,jv] at hv;rw [Bf (dT (by omega)),Fi j _ rfl hx,hrow,ckb (by rw [e2];omega),ckb (by rw [e1];omega),e1,Rn ⟨by omega,by omega⟩]
   by_cases c1:fs[j] ((a*m+i:Nat):Int)=1
   ·rw [if_pos c1] at hv;rw [Bf (eqT c1)];exact k7 _ _ hv
   ·rw [if_neg c1] at hv;rw [Ao (eqF c1)]
    by_cases c2:fs[j] ((a*m+i:Nat):Int)=2
    ·rw [if_pos c2] at hv;rw [Bf (eqT c2),show apd 8 l [(j:Int)]=some (l++[(j:Int)]) by unfold apd;rw [if_pos (by simp;omega)],sbd,ckb (by omega)];exact ih (j+1) _ (by omega) (by omega) (by simp;omega) hv
    ·rw [if_neg c2] at hv;rw [Ao (eqF c2),ckb (by omega)];exact ih (j+1) _ (by omega) (by omega) (by omega) hv
  ·rw [Ao (dF (by omega))];rw [List.drop_eq_nil_of_le (by omega),jv] at hv;exact k7 _ _ hv
theorem A6x (h:Swp s R m) (hfs:fs.length≤32) {F:Nat} (hF:2000≤F) {a:Nat} (ha:a<R) {row:List api_Echo} (hrow:row.length=m) {k3:List (List sift_Verdict)→Int→Option (List (List sift_Verdict)×Int)} :
  ∀(n i:Nat),m+1≤n+i→i≤m→H5 F (Qj (R*m) fs) a k3 row n (jst R m (fun k=>jv k fs 0 []) a i) i=k3 (jst R m (fun k=>jv k fs 0 []) (a+1) 0) ((a:Int)+1):=by
 have hm:=h.m1;have hR:=h.R4;intro n
 induction n with
 | zero=>intro i h1 h2;omega
 | succ n ih =>
  intro i h1 h2;show Lh F (Qj (R*m) fs) a k3 row _ _ i=_;unfold Lh;rw [hrow]
  by_cases hi:i<m
  ·rw [Bf (dT (by omega)),show Jt (Qj (R*m) fs) a row (jst R m (fun k=>jv k fs 0 []) a i) i (H5 F (Qj (R*m) fs) a k3 row n) F [] 0=_ from A6y h hfs ha hi hrow rfl F 0 [] (by omega) (by omega) (by simp) rfl];exact ih (i+1) (by omega) (by omega)
  ·rw [Ao (dF (by omega)),show i=m by omega,A2r];unfold Nc;rw [ckb (by omega)]
theorem A6w (h:Swp s R m) (hfs:fs.length≤32) {F:Nat} (hF:2000≤F) :
  ∀(n a:Nat),R+1≤n+a→a≤R→H4 F s (Qj (R*m) fs) n (jst R m (fun k=>jv k fs 0 []) a 0) a=some (jst R m (fun k=>jv k fs 0 []) R 0,0):=by
 have hm:=h.m1;have hR:=h.R4;intro n
 induction n with
 | zero=>intro a h1 h2;omega
 | succ n ih =>
  intro a h1 h2;show Lg F s (Qj (R*m) fs) _ _ a=_;unfold Lg;rw [h.hR]
  by_cases ha:a<R
  ·have hl:a<s.Rays.length:=by rw [h.hR];exact ha
   rw [Bf (dT (by omega)),Fi a _ rfl (List.getElem?_eq_getElem hl),show H5 F (Qj (R*m) fs) a (H4 F s (Qj (R*m) fs) n) s.Rays[a] F (jst R m (fun k=>jv k fs 0 []) a 0) 0=_ from A6x h hfs hF ha (h.rows _ (List.getElem_mem hl)) F 0 (by omega) (by omega)];exact ih (a+1) (by omega) (by omega)
  ·rw [Ao (dF (by omega)),show a=R by omega];rfl
theorem A2s (R m:Nat) (g:Int→sift_Verdict):List.replicate R ([]:List sift_Verdict)=jst R m g 0 0:=by
 apply List.ext_getElem?;intro b
 by_cases hb:b<R
 ·rw [Vu hb,List.getElem?_replicate_of_lt hb,if_neg (by omega),ite_self];rfl
 ·rw [List.getElem?_eq_none (by simp;omega),List.getElem?_eq_none (by rw [Uc];omega)]
def M6 (s:api_Sweep) (L:List (ByteArray×T)):List (Int→Int):=L.map fun p k=>(p.2.sem s k).1
def Mr (s:api_Sweep) (R m:Nat) (L:List (ByteArray×T)):List (List sift_Verdict) :=
 (List.range R).map fun b=>(List.range m).map fun j=>jv ((b*m+j:Nat):Int) (M6 s L) 0 []
theorem A2q (R m:Nat) (g:Int→sift_Verdict):jst R m g R 0=(List.range R).map fun b=>(List.range m).map fun j=>g ((b*m+j:Nat):Int):=by
 unfold jst;apply List.map_congr_left;intro b hb;rw [if_pos (List.mem_range.1 hb)]
theorem W9 {L:List (ByteArray×T)} (h:Swp s R m) (hL:GoodR L) {F:Nat} (hF:3000≤F) (hs:D9 F s=some 0):Kf F (rl L) s=some (Mr s R m L,0):=by
 have hm:=h.m1;have hR:=h.R4;have hN:=h.N1;have hlen:=hL.len;have k1:∀l1 l2,Lj F s l1 l2 (Qj (R*m) (M6 s L))=some (Mr s R m L,0):=by
  intro l1 l2;unfold Lj;rw [h.hR,show mkI 24 (R:Int) ([]:List sift_Verdict)=some (List.replicate R []) by unfold mkI;rw [if_pos (by simp only [Int.toNat_natCast];omega),Int.toNat_natCast],sbd,A2s R m (fun k=>jv k (M6 s L) 0 [])];rw [show H4 F s (Qj (R*m) (M6 s L)) F (jst R m (fun k=>jv k (M6 s L) 0 []) 0 0) 0=_ from A6w h (by simp [M6];omega) (by omega) F 0 (by omega) (by omega),A2q];rfl
 have l10:∀(y:sift_scan),y.s=s→y.n=(R*m:Nat)→∀(n j:Nat) l1 l2,L.length+1≤n+j→j≤L.length→Inv s (R*m) ⟨y.s,y.n,l1,l2⟩→Kh F (rl L) s y n l1 l2 j (Qj (R*m) (M6 s (L.take j)))=some (Mr s R m L,0):=by
  intro y hy1 hy2 n
  induction n with
  | zero=>intro j l1 l2 h1 h2;omega
  | succ n ih =>
   intro j l1 l2 h1 h2 h3;show Kg F (rl L) s y _ l1 l2 j _=_;unfold Kg;rw [Q9]
   by_cases hj:j<L.length
   ·have hp:=List.getElem?_eq_getElem hj;have hmm:=List.getElem_mem hj;have htk:L.take (j+1)=L.take j++[L[j]]:=by rw [List.take_add_one,hp];rfl
    generalize L[j]=p at hp hmm htk;have hsz:=Nat.le_trans (Y6 hmm) hL.size;obtain ⟨d',q1,q2⟩:=(A0t h p.2 F ⟨y.s,y.n,l1,l2⟩ (by omega) (by omega) h3).1 (hL.trees p hmm).1;rw [Bf (dT (by omega)),Fi j _ rfl (Wg hp),show Cy F ⟨y.s,y.n,l1,l2⟩ (rlN p).When=_ from q1,sbd];dsimp only;rw [show apd 24 (Qj (R*m) (M6 s (L.take j))) [tab (R*m) fun k=>(p.2.sem s k).1]=some (Qj (R*m) (M6 s (L.take (j+1)))) by
     unfold apd;rw [if_pos (by simp [Qj,M6];omega),htk];simp [Qj,M6],sbd,ckb (by omega)]
    refine ih (j+1) d'.tests d'.values (by omega) (by omega) ?_;have:=h3.eta q2;rw [this];exact q2
   ·rw [Ao (dF (by omega)),show j=L.length by omega,List.take_length];exact k1 _ _
 unfold Kf L4;rw [A2b hL (by omega),sbd,Ao (neF rfl),hs,sbd,Ao (neF rfl),h.hR,h.hm,ckb (by rw [←Int.natCast_mul];omega),sbd];exact l10 _ rfl (Int.natCast_mul ..).symm F 0 [] [] (by omega) (by omega) ⟨rfl,(Int.natCast_mul ..).symm,(fun t l _ hl=>by cases hl),(fun t l _ hl=>by cases hl)⟩
end
end Go.Proofs.YtkjnafecmjakcaaGreatDoor
namespace Go.Proofs.YtkjnafecmjakcaaGreatDoor
open Go Go.RowKit Go.Eng
set_option maxRecDepth 10000
set_option linter.unusedVariables false
set_option linter.unusedSimpArgs false
def byts (l:List Int):Prop:=∀x∈l,0≤x∧x<256
def T.noRay:T→Prop
 | .leaf op _=>op≠22
 | .un _ _ _ a=>a.noRay
 | .bin _ a b=>a.noRay∧b.noRay
theorem Q1 {p:List Int} (hp:byts p) (F:Nat) {n:Int} (hn:1≤n):∃x p',Bt F p n=some (x,p')∧0≤x∧x<n∧byts p':=by
 unfold Bt
 cases p with
 | nil=>exact ⟨0,[],rfl,by omega,by omega,hp⟩
 | cons a l =>
  have ha:=hp a (by simp);refine ⟨a%n,l,?_,Int.emod_nonneg _ (by omega),Int.emod_lt_of_pos _ (by omega),fun x hx=>hp x (by simp [hx])⟩;rw [Ao (eqF (by simp;omega)),Wq,ckb (by omega),Vi ha.1 hn];unfold T4;rw [if_pos (by simp only [List.length_cons];omega)];simp
theorem Q7 (n:sift_Node):sift_Node.mk n.Op n.Value_ n.Rays n.Gates n.Args=n:=by cases n;rfl
structure Mean (k ray:Bool) (d:Nat) (t:T):Prop where
 ok:okT k t
 size:t.size+1≤2 ^ d
 depth:t.depth≤d
 one:d=1→t.op<26
 ray:ray=false→t.noRay
theorem A33 {d:Nat} (h:1≤d):2≤2 ^ d:=Nat.pow_le_pow_right (n:=2) (i:=1) (by omega) h
theorem A4e (ray:Bool):∀(d F:Nat) (p:List Int),byts p→d+1≤F→d≤100 →
  (2≤d→∃t p',Bj F p d ray=some (t.node,p')∧Mean true ray d t∧byts p') ∧
  (1≤d→∃t p',Cb F p d ray=some (t.node,p')∧Mean false ray d t∧byts p'):=by
 intro d
 induction d using Nat.strongRecOn with
 | _ d ih =>
  intro F p hp hF hd;obtain ⟨F,rfl⟩:∃G,F=G+1:=⟨F-1,by omega⟩;constructor
  ·intro h2;obtain ⟨e,rfl⟩:∃e,d=e+1:=⟨d-1,by omega⟩;have hpw:2 ^ (e+1)=2 ^ e+2 ^ e:=by rw [Nat.pow_succ];omega
   have hp2:=A33 (d:=e) (by omega);have k1:∀(l:List Int) (x:Int),byts l→1≤x∧x≤13→(e+1<3→8≤x)→∃t p',C1 F (Bj F) (Cb F) (e+1:Nat) ray l x=some (t.node,p')∧Mean true ray (e+1) t∧byts p':=by
    intro l x hl hx hx3;unfold C1;have hdm:((e+1:Nat):Int)-1=(e:Int):=by omega
    rw [hdm,ckb (by omega),ckb (by omega),ckb (by omega)]
    by_cases c1:x≤2
    ·rw [Bf (dT c1)];exact ⟨.leaf x 0,l,rfl,⟨by show (x=1∨x=2)∧(0:Int)=0;omega,by simp only [T.size];omega,by simp only [T.depth];omega,by omega,fun _=>by simp only [T.noRay];omega⟩,hl⟩
    rw [Ao (dF c1)]
    by_cases c2:x=3
    ·obtain ⟨t,p',q1,q2,q3⟩:=(ih e (by omega) F l hl (by omega) (by omega)).1 (by omega);rw [Bf (eqT c2),q1,sbd];exact ⟨.un x 0 0 t,p',by dsimp only;rw [Q7];rfl,⟨by simp only [okT];exact ⟨.inl ⟨c2,trivial,trivial⟩,q2.ok⟩,by have:=q2.size;simp only [T.size];omega,by have:=q2.depth;simp only [T.depth];omega,by omega,fun hr=>q2.ray hr⟩,q3⟩
    rw [Ao (eqF c2)]
    by_cases c3:x≤5
    ·obtain ⟨t,p',q1,q2,q3⟩:=(ih e (by omega) F l hl (by omega) (by omega)).1 (by omega);obtain ⟨t2,p2,r1,r2,r3⟩:=(ih e (by omega) F p' q3 (by omega) (by omega)).1 (by omega);rw [Bf (dT c3),q1,sbd,ckb (by omega)];dsimp only;rw [r1,sbd];exact ⟨.bin x t t2,p2,by dsimp only;rw [Q7,Q7];rfl,⟨by simp only [okT];exact .inl ⟨by omega,q2.ok,r2.ok⟩,by have:=q2.size;have:=r2.size;simp only [T.size];omega,by have:=q2.depth;have:=r2.depth;simp only [T.depth];omega,by omega,fun hr=>⟨q2.ray hr,r2.ray hr⟩⟩,r3⟩
    rw [Ao (dF c3)]
    by_cases c4:x≤7
    ·obtain ⟨a,pa,a1,a2,a3,a4⟩:=Q1 hl F (n:=3) (by omega);obtain ⟨b,pb,b1,b2,b3,b4⟩:=Q1 a4 F (n:=3) (by omega);obtain ⟨t,p',q1,q2,q3⟩:=(ih e (by omega) F pb b4 (by omega) (by omega)).1 (by omega);rw [Bf (dT c4),a1,sbd];dsimp only;rw [b1,sbd,ckb (by omega)];dsimp only;rw [q1,sbd];exact ⟨.un x a b t,p',by dsimp only;rw [Q7];rfl,⟨by simp only [okT];exact ⟨.inr ⟨by omega,by omega,by omega,by omega,by omega⟩,q2.ok⟩,by have:=q2.size;simp only [T.size];omega,by have:=q2.depth;simp only [T.depth];omega,by omega,fun hr=>q2.ray hr⟩,q3⟩
    rw [Ao (dF c4)];obtain ⟨t,p',q1,q2,q3⟩:=(ih e (by omega) F l hl (by omega) (by omega)).2 (by omega);obtain ⟨t2,p2,r1,r2,r3⟩:=(ih e (by omega) F p' q3 (by omega) (by omega)).2 (by omega);rw [q1,sbd,ckb (by omega)];dsimp only;rw [r1,sbd];exact ⟨.bin x t t2,p2,by dsimp only;rw [Q7,Q7];rfl,⟨by simp only [okT];exact .inr ⟨by omega,by omega,q2.ok,r2.ok⟩,by have:=q2.size;have:=r2.size;simp only [T.size];omega,by have:=q2.depth;have:=r2.depth;simp only [T.depth];omega,by omega,fun hr=>⟨q2.ray hr,r2.ray hr⟩⟩,r3⟩
   show ∃t p',D4 F (Bj F) (Cb F) p (e+1:Nat) ray=_∧_;unfold D4;obtain ⟨a,pa,a1,a2,a3,a4⟩:=Q1 hp F (n:=13) (by omega);rw [a1,sbd,ckb (by omega)];dsimp only
   by_cases c:((e+1:Nat):Int)<3∧1+a<8
   ·obtain ⟨b,pb,b1,b2,b3,b4⟩:=Q1 a4 F (n:=6) (by omega);rw [Bf (by rw [dT c.1,dT c.2];rfl),b1,sbd,ckb (by omega)];exact k1 pb _ b4 (by omega) (by omega)
   ·rw [Ao (by rw [←Bool.not_eq_true];intro hc;exact c (A6l.1 hc))];exact k1 pa _ a4 (by omega) (by omega)
  ·intro h1;obtain ⟨e,rfl⟩:∃e,d=e+1:=⟨d-1,by omega⟩;have hpw:2 ^ (e+1)=2 ^ e+2 ^ e:=by rw [Nat.pow_succ];omega
   have hpos:1≤2 ^ e:=Nat.one_le_two_pow;have hdm:((e+1:Nat):Int)-1=(e:Int):=by omega
   show ∃t p',F9 F (Bj F) (Cb F) p (e+1:Nat) ray=_∧_;have k1:∀(y:Int×List Int) (x:Int),byts y.2→14≤x∧x≤27→(e+1<2→x<25)→(e+1<4→x≠25)→(ray=false→x≠22)→∃t p',Bw F (Bj F) (Cb F) (e+1:Nat) ray y x=some (t.node,p')∧Mean false ray (e+1) t∧byts p':=by
    intro y x hl hx hx2 hx4 hxr;unfold Bw
    by_cases c1:x=14
    ·obtain ⟨b,pb,b1,b2,b3,b4⟩:=Q1 hl F (n:=256) (by omega);rw [Bf (eqT c1),b1,sbd];exact ⟨.leaf x b,pb,rfl,⟨by simp only [okT];omega,by simp only [T.size];omega,by simp only [T.depth];omega,fun _=>by simp only [T.op];omega,fun _=>by simp only [T.noRay];omega⟩,b4⟩
    rw [Ao (eqF c1)]
    by_cases c2:x=25
    ·obtain ⟨a,pa,a1,a2,a3,a4⟩:=Q1 hl F (n:=3) (by omega);obtain ⟨b,pb,b1,b2,b3,b4⟩:=Q1 a4 F (n:=3) (by omega);obtain ⟨t,p',q1,q2,q3⟩:=(ih e (by omega) F pb b4 (by omega) (by omega)).1 (by omega);rw [Bf (eqT c2),a1,sbd];dsimp only;rw [b1,sbd,hdm,ckb (by omega)];dsimp only;rw [q1,sbd];exact ⟨.un x a b t,p',by dsimp only;rw [Q7];rfl,⟨by simp only [okT];exact ⟨⟨c2,by omega,by omega,by omega,by omega⟩,q2.ok⟩,by have:=q2.size;simp only [T.size];omega,by have:=q2.depth;simp only [T.depth];omega,fun _=>by simp only [T.op];omega,fun hr=>q2.ray hr⟩,q3⟩
    rw [Ao (eqF c2)];have k2:∀c:Bool,(c=true↔x=26∨x=27)→∃t p',Cp (Cb F) (e+1:Nat) ray y x c=some (t.node,p')∧Mean false ray (e+1) t∧byts p':=by
     intro c hc;unfold Cp
     by_cases c3:x=26∨x=27
     ·have he:1≤e:=by omega
      have hp2:=A33 he;obtain ⟨t2,p2,r1,r2,r3⟩:=(ih 1 (by omega) F y.2 hl (by omega) (by omega)).2 (by omega);obtain ⟨t,p',q1,q2,q3⟩:=(ih e (by omega) F p2 r3 (by omega) (by omega)).2 he;rw [Bf (hc.2 c3),show Cb F y.2 1 ray=_ from r1,sbd,hdm,ckb (by omega)];dsimp only;rw [q1,sbd];exact ⟨.bin x t t2,p',by dsimp only;rw [Q7,Q7];rfl,⟨by simp only [okT];exact ⟨c3,q2.ok,r2.ok,r2.one rfl⟩,by have:=q2.size;have:=r2.size;simp only [T.size];omega,by have:=q2.depth;have:=r2.depth;simp only [T.depth];omega,by omega,fun hr=>⟨q2.ray hr,r2.ray hr⟩⟩,q3⟩
     ·rw [Ao (by rw [←Bool.not_eq_true];intro h;exact c3 (hc.1 h))];exact ⟨.leaf x 0,y.2,rfl,⟨by show (x=14∧(0:Int)≤0∧(0:Int)≤1000000000)∨(15≤x∧x≤24∧(0:Int)=0);omega,by simp only [T.size];omega,by simp only [T.depth];omega,fun _=>by simp only [T.op];omega,fun hr=>hxr hr⟩,hl⟩
    by_cases c3:x=26
    ·rw [Bf (eqT c3)];exact k2 _ (by rw [beq_iff_eq];omega)
    ·rw [Ao (eqF c3)];exact k2 _ (by rw [beq_iff_eq];omega)
   unfold F9;obtain ⟨a,pa,a1,a2,a3,a4⟩:=Q1 hp F (n:=14) (by omega);rw [a1,sbd,ckb (by omega)];dsimp only;have key:∀c:Bool,(c=true→True)→(c=false→(e+1<2→14+a<25)∧(e+1<4→14+a≠25)∧(ray=false→14+a≠22))→∃t p',(bif c then Bw F (Bj F) (Cb F) (e+1:Nat) ray (a,pa) 14 else Bw F (Bj F) (Cb F) (e+1:Nat) ray (a,pa) (14+a))=some (t.node,p')∧Mean false ray (e+1) t∧byts p':=by
    intro c _ hc
    cases c
    ·obtain ⟨z1,z2,z3⟩:=hc rfl;exact k1 (a,pa) (14+a) a4 (by omega) z1 z2 z3
    ·exact k1 (a,pa) 14 a4 (by omega) (by omega) (by omega) (by omega)
   refine key _ (fun _=>trivial) fun hc=>?_;have o1:∀{x y:Bool},(bif x then true else y)=false→x=false∧y=false:=by intro x y;cases x<;>cases y<;>simp
   obtain ⟨h1,h2⟩:=o1 hc;obtain ⟨h3,h4⟩:=o1 h1;refine ⟨fun hx=>?_,fun hx=>?_,fun hx=>?_⟩
   ·rw [Bf (dT (by omega))] at h4;have:=of_decide_eq_false h4;omega
   ·rw [Bf (dT (by omega))] at h2;intro e;rw [eqT e] at h2;cases h2
   ·subst hx;intro e;rw [eqT e] at h3;cases h3
end Go.Proofs.YtkjnafecmjakcaaGreatDoor
namespace Go.Proofs.YtkjnafecmjakcaaGreatDoor
open Go Go.RowKit Go.Eng
set_option maxRecDepth 10000
set_option linter.unusedVariables false
set_option linter.unusedSimpArgs false
def nms:List ByteArray:=[(⟨#[97]⟩:ByteArray),(⟨#[98,49]⟩:ByteArray),(⟨#[99,95]⟩:ByteArray),(⟨#[100,100,100,100,100,100,100,100,100,100,100,100]⟩:ByteArray)]
theorem A5y:[(⟨#[97]⟩:ByteArray),(⟨#[98,49]⟩:ByteArray),(⟨#[99,95]⟩:ByteArray),(⟨#[100,100,100,100,100,100,100,100,100,100,100,100]⟩:ByteArray)]=nms:=rfl
structure MeanR (ray:Bool) (L:List (ByteArray×T)):Prop where
 len:L.length≤4
 names:∀(i:Nat) p,L[i]? = some p→nms[i]? = some p.1
 trees:∀p∈L,Mean true ray 5 p.2
theorem A6z:∀p∈nms,∀F,30≤F→beam_Name F p=some true∧sift_word F p=some false:=by
 intro p hp F hF;obtain ⟨F,rfl⟩:∃G,F=G+30:=⟨F-30,by omega⟩;simp only [nms,List.mem_cons,List.not_mem_nil,or_false] at hp;rcases hp with rfl|rfl|rfl|rfl<;>exact ⟨rfl,rfl⟩
theorem A5z:∀(i j:Nat) (p q:ByteArray),nms[i]? = some p→nms[j]? = some q→i<j→p≠q:=by
 have key:∀i:Fin 4,∀j:Fin 4,i.val<j.val→nms[i.val]?≠nms[j.val]?:=by decide
 intro i j p q h1 h2 hij e;have a:=(List.getElem?_eq_some_iff.1 h1).1;have b:=(List.getElem?_eq_some_iff.1 h2).1;exact key ⟨i,a⟩ ⟨j,b⟩ hij (by show nms[i]? = nms[j]?;rw [h1,h2,e])
theorem MeanR.good {ray:Bool} {L:List (ByteArray×T)} (h:MeanR ray L):GoodR L:=by
 have hs:∀M:List (ByteArray×T),(∀p∈M,Mean true ray 5 p.2)→(M.map (·.2.size)).sum≤31*M.length:=by
  intro M
  induction M with
  | nil=>simp
  | cons p M ih =>
   intro hM;have h1:=(hM p (by simp)).size;have h2:=ih fun q hq=>hM q (by simp [hq]);rw [List.map_cons,List.sum_cons,List.length_cons];omega
 refine ⟨by have:=h.len;omega,?_,?_,?_,?_⟩
 ·have:=hs L h.trees;have:=h.len;omega
 ·intro p hp F hF;obtain ⟨i,hi,e⟩:=List.mem_iff_getElem.1 hp;have:=h.names i p (by rw [List.getElem?_eq_getElem hi,e]);exact A6z _ (List.mem_of_getElem? this) F hF
 ·intro i j p q h1 h2 hij;exact A5z i j _ _ (h.names i p h1) (h.names j q h2) hij
 ·intro p hp;have:=h.trees p hp;exact ⟨this.ok,by have:=this.depth;omega⟩
theorem A37 {p:List Int} (hp:byts p) {n:Int} (hn:0≤n∧n<256) (ray:Bool) {F:Nat} (hF:20≤F) :
  ∃L p',Gw F p n ray=some (rl L,p')∧MeanR ray L∧L.length=(n%5).toNat:=by
 have hn5:0≤n%5∧n%5<5:=⟨Int.emod_nonneg _ (by omega),Int.emod_lt_of_pos _ (by omega)⟩;have go:∀(k:Nat) (j:Nat) (l:List Int) (L:List (ByteArray×T)),byts l→MeanR ray L→L.length=j→(n%5).toNat+1≤k+j→j≤(n%5).toNat →
   ∃L' p',Ev F ray (n%5) k l j (rl L)=some (rl L',p')∧MeanR ray L'∧L'.length=(n%5).toNat:=by
  intro k
  induction k with
  | zero=>intro j l L _ _ _ h1 h2;omega
  | succ k ih =>
   intro j l L hl hL hj h1 h2;show ∃L' p',Eu F ray (n%5) _ l j (rl L)=_∧_;unfold Eu;rw [A5y]
   by_cases c:(j:Int)<n%5
   ·have hj4:j<4:=by omega
    obtain ⟨nm,hnm⟩:∃nm,nms[j]? = some nm:=⟨nms[j]'(by simp [nms];omega),List.getElem?_eq_getElem (by simp [nms];omega)⟩;obtain ⟨t,p',q1,q2,q3⟩:=(A4e ray 5 F l hl (by omega) (by omega)).1 (by omega);rw [Bf (dT c),Fi j nm rfl hnm,show Bj F l 5 ray=_ from q1,sbd];dsimp only;rw [Q7,show apd 72 (rl L) [⟨nm,t.node⟩]=some (rl (L++[(nm,t)])) by
     unfold apd;rw [if_pos (by rw [Q9];simp;omega)];simp [rl,rlN],sbd,ckb (by omega)]
    refine ih (j+1) p' _ q3 ⟨by simp;omega,fun i q hq=>?_,fun q hq=>?_⟩ (by simp;omega) (by omega) (by omega)
    ·by_cases hi:i<L.length
     ·rw [List.getElem?_append_left hi] at hq;exact hL.names i q hq
     ·obtain ⟨h5,h6⟩:=List.getElem?_eq_some_iff.1 hq;have:i=j:=by simp at h5;omega
      subst this;rw [←hj,List.getElem?_append_right (by omega),Nat.sub_self] at hq
      cases hq;exact hnm
    ·rcases List.mem_append.1 hq with hq|hq
     ·exact hL.trees q hq
     ·rw [List.mem_singleton] at hq;subst hq;exact q2
   ·rw [Ao (dF c)];exact ⟨L,l,rfl,hL,by omega⟩
 unfold Gw;rw [ckb (by omega),Vi hn.1 (by omega)];exact go F 0 p [] hp ⟨by simp,fun i q hq=>by simp at hq,fun q hq=>by simp at hq⟩ rfl (by omega) (by omega)
def inS (x:api_Span) (lo hi:Int):Prop:=lo≤x.Lo∧x.Lo≤x.Hi∧x.Hi≤hi
def trS (x:api_Span):Prop:=-32768≤x.Lo∧x.Lo≤x.Hi∧x.Hi≤32767
def zS (x:api_Span):Prop:=x.Lo=0∧x.Hi=0
def okE (e:api_Echo):Prop :=
 (e.Kind=1∧inS e.Power 0 1073741824∧e.Power.Lo=0∧zS e.Steps.1∧zS e.Steps.2∧e.Spread=0∧zS e.Ratio∧zS e.Match∧zS e.Turn) ∨
 ((e.Kind=2∨e.Kind=3)∧inS e.Power 0 1073741824∧0<e.Power.Lo∧inS e.Ratio 0 1000000∧inS e.Match 0 1000∧0≤e.Spread∧e.Spread≤65535 ∧
  (e.Kind=2→zS e.Steps.1∧zS e.Steps.2∧zS e.Turn)∧(e.Kind=3→trS e.Steps.1∧trS e.Steps.2∧trS e.Turn))
theorem okE.bd {e:api_Echo} (h:okE e):bdE e:=by
 unfold okE inS trS zS at h;unfold bdE bdS;omega
theorem Ti {x:api_Span} {lo hi:Int} (h:inS x lo hi):Aj x lo hi=true:=by
 unfold Aj;rw [dT h.1,dT h.2.1,Bf rfl,Bf rfl,dT h.2.2]
theorem Sq {x lo hi:Int} (h:lo≤x∧x≤hi):Av x lo hi=true:=by
 unfold Av;rw [dT h.1,Bf rfl,dT h.2]
theorem A6k {x:api_Span} (h:zS x):(((x.Lo:Int)==0)&&(((x.Hi:Int)==0)&&true))=true:=by rw [h.1,h.2];rfl
theorem A4t {l:List api_Span} (hl:l.length≤10) (h:∀x∈l,trS x) {F:Nat}:∀(n j:Nat),l.length+1≤n+j→j≤l.length→G2 l n j=some true:=by
 intro n
 induction n with
 | zero=>intro j h1 h2;omega
 | succ n ih =>
  intro j h1 h2;show Hm l _ j=_;unfold Hm
  by_cases hj:j<l.length
  ·obtain ⟨t1,t3,t4⟩:=h _ (List.getElem_mem hj);rw [Bf (dT (by omega)),Fi j _ rfl (List.getElem?_eq_getElem hj),Sq ⟨t1,by omega⟩,gdT (g:=(!true)==false&&true) rfl,ckb (by omega),gdT (g:=(!true)==false&&true) rfl,ckb (by omega),Sq ⟨t3,by omega⟩,Ao (c:=bif !true then true else !true) rfl,ckb (by omega)];exact ih (j+1) (by omega) (by omega)
  ·rw [Ao (dF (by omega))];rfl
theorem A3t {e:api_Echo} (h:okE e) {F:Nat} (hF:10≤F):Gt F e=some 0:=by
 unfold Gt;rcases h with ⟨h1,h2,h3,h4,h5,h6,h7,h8,h9⟩|⟨h1,h2,h3,h4,h5,h6,h7,h8,h9⟩
 ·rw [Bf (eqT h1),Bf (Ti h2)];simp only [h1,h3,h4.1,h4.2,h5.1,h5.2,h6,h7.1,h7.2,h8.1,h8.2,h9.1,h9.2];rw [eqT (a:=e.Power.Hi) rfl];rfl
 ·rw [Ao (eqF (by omega))];unfold Gm
  by_cases c:e.Kind=2
  ·obtain ⟨z1,z2,z3⟩:=h8 c;rw [Bf (eqT c),eqT c,Bf rfl,Bf rfl,Ti h2,dT h3,Ti h4,Ti h5,Sq ⟨h6,h7⟩,A6k z1,A6k z2,A6k z3];rfl
  ·obtain ⟨z1,z2,z3⟩:=h9 (by omega);rw [Ao (eqF c),eqT (show e.Kind=3 by omega),Bf rfl,Ao (eqF c),Ti h2,dT h3,Ti h4,Ti h5,Sq ⟨h6,h7⟩];unfold Nb;rw [Bf rfl,show G2 [⟨e.Steps.1.Lo,e.Steps.1.Hi⟩,⟨e.Steps.2.Lo,e.Steps.2.Hi⟩,e.Turn] F 0=some true from A4t (F:=0) (by simp) (by
    intro x hx;simp only [List.mem_cons,List.not_mem_nil,or_false] at hx;rcases hx with rfl|rfl|rfl
    ·exact z1
    ·exact z2
    ·exact z3) F 0 (by simp;omega) (by simp)]
   rfl
structure Okw (s:api_Sweep) (r m:Nat):Prop where
 site:s.Site=⟨⟨#[115]⟩,0,0,0,r,m,500,0⟩
 r1:1≤r∧r≤3
 m1:1≤m∧m≤4
 time:s.Time=0
 tilt:0≤s.Tilt∧s.Tilt≤255
 len:s.Rays.length=4*r
 rows:∀l∈s.Rays,l.length=m∧∀e∈l,okE e
theorem Okw.swp {s:api_Sweep} {r m:Nat} (h:Okw s r m):Swp s (4*r) m:=by
 have h1:=h.r1;have h2:=h.m1;have h3:=h.tilt;refine ⟨h.len,by rw [h.site],by omega,by omega,?_,fun l hl=>(h.rows l hl).1,fun l hl e he=>((h.rows l hl).2 e he).bd,by omega⟩;have:=Nat.mul_le_mul (show 4*r≤12 by omega) h2.2;omega
theorem Okw.check {s:api_Sweep} {r m:Nat} (h:Okw s r m) {F:Nat} (hF:50≤F):D9 F s=some 0:=by
 have h1:=h.r1;have h2:=h.m1;have h3:=h.tilt;have l5:∀(row:List api_Echo),row∈s.Rays→∀(x:Int) (k:Int→Option Int) (n j:Nat),m+1≤n+j→j≤m→0≤x∧x≤100→E3 F x k row n j=k (x+1):=by
  intro row hrow x k n;obtain ⟨e1,e2⟩:=h.rows row hrow
  induction n with
  | zero=>intro j h1 h2;omega
  | succ n ih =>
   intro j h1 h2 hx;show Fe F x k row _ j=_;unfold Fe
   by_cases hj:j<row.length
   ·rw [Bf (dT (by omega)),Fi j _ rfl (List.getElem?_eq_getElem hj),show Gt F _=some 0 from A3t (e2 _ (List.getElem_mem hj)) (by omega),sbd,Ao (neF rfl),ckb (by omega)];exact ih (j+1) (by omega) (by omega) hx
   ·rw [Ao (dF (by omega))];unfold Ha;rw [ckb (by omega)]
 have l3:∀(n j:Nat),s.Rays.length+1≤n+j→j≤s.Rays.length→Fg F s n j=some 0:=by
  intro n
  induction n with
  | zero=>intro j h1 h2;omega
  | succ n ih =>
   intro j h4 h5;have hl:=h.len;show Fc F s _ j=_;unfold Fc
   by_cases hj:j<s.Rays.length
   ·rw [Bf (dT (by omega)),Fi j _ rfl (List.getElem?_eq_getElem hj),show E3 F j _ _ F 0=_ from l5 _ (List.getElem_mem hj) j _ F 0 (by omega) (by omega) (by omega)];exact ih (j+1) (by omega) (by omega)
   ·rw [Ao (dF (by omega))];rfl
 have l6:∀(n j:Nat),s.Rays.length+1≤n+j→j≤s.Rays.length→Fh F s n j=some 0:=by
  intro n
  induction n with
  | zero=>intro j h1 h2;omega
  | succ n ih =>
   intro j h4 h5;have hl:=h.len;show Ff F s _ j=_;unfold Ff
   by_cases hj:j<s.Rays.length
   ·rw [Bf (dT (by omega)),Fi j _ rfl (List.getElem?_eq_getElem hj),Ao (neF (by rw [(h.rows _ (List.getElem_mem hj)).1,h.site])),ckb (by omega)];exact ih (j+1) (by omega) (by omega)
   ·rw [Ao (dF (by omega))];exact l3 F 0 (by omega) (by omega)
 have hsite:K4 F s.Site=some 0:=by
  have e1:Ax (r:Int) 1 90=true:=Sq ⟨by omega,by omega⟩;have e2:Ax (m:Int) 1 200=true:=Sq ⟨by omega,by omega⟩;rw [h.site];unfold K4;rw [show beam_Name F (⟨#[115]⟩:ByteArray)=some true from rfl,sbd,Ao (c:=!true) rfl];unfold Ey;dsimp only;rw [e1,e2];rfl
 unfold D9;rw [hsite,sbd,Ao (neF rfl),Sq (x:=s.Tilt) ⟨h3.1,by omega⟩,Sq (x:=s.Time) (by rw [h.time];omega),Ao (c:=bif !true then true else !true) rfl,h.site];dsimp only;rw [ckb (by omega),Ao (neF (by rw [h.len];omega))];exact l6 F 0 (by have:=h.len;omega) (by omega)
end Go.Proofs.YtkjnafecmjakcaaGreatDoor
namespace Go.Proofs.YtkjnafecmjakcaaGreatDoor
open Go Go.RowKit Go.Eng
set_option maxRecDepth 10000
set_option linter.unusedVariables false
set_option linter.unusedSimpArgs false
theorem N0 {l:List Int} (hl:byts l) (F:Nat) {i n:Int} (hi:0≤i) (hn:1≤n):∃x,Dc F l i n=some x∧0≤x∧x<n:=by
 unfold Dc
 by_cases h:l.length=0
 ·exact ⟨0,by rw [Bf (eqT (by omega))],by omega,by omega⟩
 ·have h1:0≤i%(l.length:Int)∧i%(l.length:Int)<(l.length:Int):=⟨Int.emod_nonneg _ (by omega),Int.emod_lt_of_pos _ (by omega)⟩;have h2:(i%(l.length:Int)).toNat<l.length:=by omega
  have hb:=hl _ (List.getElem_mem h2);refine ⟨l[(i%(l.length:Int)).toNat]%n,?_,Int.emod_nonneg _ (by omega),Int.emod_lt_of_pos _ (by omega)⟩;rw [Ao (eqF (by omega)),Vi hi (by omega),Fi (i%(l.length:Int)).toNat _ (by omega) (List.getElem?_eq_getElem h2),ckb (by omega),Vi hb.1 hn]
structure AirIn (a:law04_Air):Prop where
 rose:0≤a.Rose∧a.Rose<256
 gates:0≤a.Gates∧a.Gates<256
 tilt:0≤a.Tilt∧a.Tilt<256
 kinds:byts a.Kinds
 low:byts a.Low
 wide:byts a.Wide
theorem Uk {a:law04_Air} (h:AirIn a) (F:Nat) {i k:Int} (hi:0≤i∧i≤10) (hk:0≤k∧k≤1000):∃x,Ca F i a k=some x∧0≤x.Lo∧x.Lo≤x.Hi∧x.Hi≤240:=by
 obtain ⟨x,h1,h2,h3⟩:=N0 h.low F (i:=k+i) (n:=200) (by omega) (by omega);obtain ⟨y,h4,h5,h6⟩:=N0 h.wide F (i:=k+2*i) (n:=40) (by omega) (by omega);refine ⟨⟨x,x+y⟩,?_,h2,by dsimp only;omega,by dsimp only;omega⟩;unfold Ca A9;rw [ckb (by omega),h1,sbd,ckb (by omega),ckb (by omega),h4,sbd,ckb (by omega)]
theorem A5f {a:law04_Air} (h:AirIn a) {F:Nat} (hF:50≤F):∃s,Ji F a=some s∧Okw s (1+a.Rose%3).toNat (1+a.Gates%4).toNat:=by
 have hr:0≤a.Rose%3∧a.Rose%3<3:=⟨Int.emod_nonneg _ (by omega),Int.emod_lt_of_pos _ (by omega)⟩;have hg:0≤a.Gates%4∧a.Gates%4<4:=⟨Int.emod_nonneg _ (by omega),Int.emod_lt_of_pos _ (by omega)⟩;have h1:=h.rose;have h2:=h.gates;have h3:=h.tilt;generalize hm:(1+a.Gates%4).toNat=m;have hm2:1+a.Gates%4=(m:Int):=by omega
 generalize hrr:(1+a.Rose%3).toNat=r;have hr2:1+a.Rose%3=(r:Int):=by omega
 have l5:∀(st:List (List api_Echo)) (b:Int) (k2:List (List api_Echo)→Int→Int→Option api_Sweep),st.length≤20→0≤b∧b≤20→∀(n j:Nat) (k:Int) (l:List api_Echo),m+1≤n+j→j≤m→0≤k∧k+(m-j)≤200→l.length=j→(∀e∈l,okE e) →
   ∃row,row.length=m∧(∀e∈row,okE e)∧Cm F a m st b k2 n k j l=k2 (st++[row]) (k+(m-j)) (b+1):=by
  intro st b k2 hst hb n
  induction n with
  | zero=>intro j k l h1 h2;omega
  | succ n ih =>
   intro j k l h4 h5 h6 h7 h8;show ∃row,_∧_∧G5 F a m st b k2 (Cm F a m st b k2 n) k j l=_;unfold G5
   by_cases c:j<m
   ·have k6:∀kk p1 p2 p3 p4 p5 p6 p7 p8 p9 p10 p11,okE ⟨kk,⟨p1,p6⟩,(⟨p7,p8⟩,⟨0,0⟩),p9,⟨p10,p11⟩,⟨p2,p3⟩,⟨p4,p5⟩⟩→∃row,row.length=m∧(∀e∈row,okE e)∧D0 k j l (Cm F a m st b k2 n) kk p1 p2 p3 p4 p5 p6 p7 p8 p9 p10 p11=k2 (st++[row]) (k+(m-j)) (b+1):=by
     intro kk p1 p2 p3 p4 p5 p6 p7 p8 p9 p10 p11 hok;unfold D0;rw [show apd 112 l [(⟨kk,⟨p1,p6⟩,(⟨p7,p8⟩,⟨0,0⟩),p9,⟨p10,p11⟩,⟨p2,p3⟩,⟨p4,p5⟩⟩:api_Echo)]=some _ by unfold apd;rw [if_pos (by simp;omega)],sbd,ckb (by omega),ckb (by omega)];obtain ⟨row,q1,q2,q3⟩:=ih (j+1) (k+1) (l++[(⟨kk,⟨p1,p6⟩,(⟨p7,p8⟩,⟨0,0⟩),p9,⟨p10,p11⟩,⟨p2,p3⟩,⟨p4,p5⟩⟩:api_Echo)]) (by omega) (by omega) (by omega) (by simp;omega) (by
      intro e he;rcases List.mem_append.1 he with he|he
      ·exact h8 e he
      ·rw [List.mem_singleton] at he;subst he;exact hok)
     exact ⟨row,q1,q2,by rw [show k+(m-j)=k+1+(m-((j+1:Nat):Int)) by omega];exact q3⟩
    obtain ⟨x,x1,x2,x3⟩:=N0 h.kinds F (i:=k) (n:=3) (by omega) (by omega);rw [Bf (dT (by omega)),x1,sbd,ckb (by omega)]
    by_cases c1:1+x=1
    ·obtain ⟨w,w1,w2,w3⟩:=N0 h.wide F (i:=k) (n:=40) (by omega) (by omega);rw [Bf (eqT c1),w1,sbd];refine k6 _ _ _ _ _ _ _ _ _ _ _ _ (.inl ?_);dsimp only [inS,zS,A9];omega
    ·obtain ⟨a0,b0,c0,d0,e0⟩:=Uk h F (i:=0) (k:=k) (by omega) (by omega);obtain ⟨a1,b1,c1',d1,e1⟩:=Uk h F (i:=1) (k:=k) (by omega) (by omega);obtain ⟨a2,b2,c2,d2,e2⟩:=Uk h F (i:=2) (k:=k) (by omega) (by omega);obtain ⟨a4,b4,c4,d4,e4⟩:=Uk h F (i:=4) (k:=k) (by omega) (by omega);obtain ⟨a5,b5,c5,d5,e5⟩:=Uk h F (i:=5) (k:=k) (by omega) (by omega);obtain ⟨w,w1,w2,w3⟩:=N0 h.low F (i:=k+3) (n:=200) (by omega) (by omega);rw [Ao (eqF c1),ckb (by omega),b0,sbd,b1,sbd,b2,sbd,w1,sbd,ckb (by omega),ckb (by omega)]
     by_cases c3:1+x=3
     ·rw [Bf (eqT c3),b4,sbd,b5,sbd];refine k6 _ _ _ _ _ _ _ _ _ _ _ _ (.inr ?_);dsimp only [inS,zS,trS];omega
     ·rw [Ao (eqF c3)];refine k6 _ _ _ _ _ _ _ _ _ _ _ _ (.inr ?_);dsimp only [inS,zS,trS];omega
   ·rw [Ao (dF (by omega))];unfold Hu Ht;rw [show apd 24 st [l]=some (st++[l]) by unfold apd;rw [if_pos (by simp;omega)],sbd,ckb (by omega)];exact ⟨l,by omega,h8,by rw [show k+(m-j)=k by omega]⟩
 have l2:∀(n j:Nat) (k:Int) (st:List (List api_Echo)),4*r+1≤n+j→j≤4*r→k=j*m→st.length=j→(∀l∈st,l.length=m∧∀e∈l,okE e) →
   ∃s,Cl F a r m a.Tilt (4*r:Nat) n st k j=some s∧Okw s r m:=by
  intro n
  induction n with
  | zero=>intro j k st h1 h2;omega
  | succ n ih =>
   intro j k st h4 h5 h6 h7 h8;show ∃s,G4 F a r m a.Tilt (4*r:Nat) (Cl F a r m a.Tilt (4*r:Nat) n) st k j=some s∧_;unfold G4
   by_cases c:j<4*r
   ·have hk:k+m≤48:=by
     have:=Nat.mul_le_mul (show j+1≤12 by omega) (show m≤4 by omega);rw [h6,←Int.natCast_mul];rw [Nat.add_mul] at this;omega
    have hk0:0≤k:=by rw [h6,←Int.natCast_mul];omega
    obtain ⟨row,q1,q2,q3⟩:=l5 st j (Cl F a r m a.Tilt (4*r:Nat) n) (by omega) (by omega) F 0 k [] (by omega) (by omega) (by omega) rfl (by simp);rw [Bf (dT (by omega)),show Cm F a m st j (Cl F a r m a.Tilt (4*r:Nat) n) F k 0 []=_ from q3];refine ih (j+1) _ (st++[row]) (by omega) (by omega) ?_ (by simp;omega) (fun l hl=>?_)
    ·rw [h6,Int.natCast_add,Int.add_mul];omega
    ·rcases List.mem_append.1 hl with hl|hl
     ·exact h8 l hl
     ·rw [List.mem_singleton] at hl;subst hl;exact ⟨q1,q2⟩
   ·rw [Ao (dF (by omega))];exact ⟨_,rfl,⟨rfl,by omega,by omega,rfl,by dsimp only;omega,by dsimp only;omega,h8⟩⟩
 unfold Ji;rw [ckb (by omega),Vi h1.1 (by omega),ckb (by omega),ckb (by omega),Vi h2.1 (by omega),ckb (by omega),ckb (by omega),ckb (by omega),hm2,hr2];rw [show 4*(r:Int)=((4*r:Nat):Int) by omega];exact l2 F 0 0 [] (by omega) (by omega) (by simp) rfl (by simp)
end Go.Proofs.YtkjnafecmjakcaaGreatDoor
namespace Go.Proofs.YtkjnafecmjakcaaGreatDoor
open Go Go.RowKit Go.Eng
set_option maxRecDepth 10000
set_option linter.unusedVariables false
set_option linter.unusedSimpArgs false
end Go.Proofs.YtkjnafecmjakcaaGreatDoor
namespace Go.Proofs.YtkjnafecmjakcaaGreatDoor
open Go Go.RowKit Go.Eng
set_option maxRecDepth 10000
set_option linter.unusedVariables false
set_option linter.unusedSimpArgs false
theorem Wu {x y:Bool} (h1:x=false) (h2:y=false):(bif x then true else y)=false:=by rw [h1,h2];rfl
section
variable {f:sift_Node→Option sift_Node} {p u v u' v':sift_Node} {n:Nat}
end
section
variable {f:sift_Node→Option Bool} {p u v:sift_Node} {n:Nat}
end
section
variable {f:sift_Node→sift_Node→Option Bool} {p u v:sift_Node} {n:Nat}
end
end Go.Proofs.YtkjnafecmjakcaaGreatDoor
namespace Go.Proofs.YtkjnafecmjakcaaGreatDoor
open Go Go.RowKit Go.Eng
set_option maxRecDepth 10000
set_option linter.unusedVariables false
set_option linter.unusedSimpArgs false
theorem A07:Nk 4000=some true:=by kernel_rfl
theorem A5r (k:Int):∀(fs:List (Int→Int)) (j:Int) (l:List Int),(jv k fs j l).Doubts.length≤l.length+fs.length:=by
 intro fs
 induction fs with
 | nil=>intro j l;simp [jv]
 | cons f fs ih =>
  intro j l;rw [jv,List.length_cons]
  split
  ·dsimp only;omega
  ·split
   ·have:=ih (j+1) (l++[j]);rw [List.length_append,List.length_singleton] at this;omega
   ·have:=ih (j+1) l;omega
theorem U1 {l:List Int} (h:∀y∈l,0≤y∧y≤255):byts l:=fun y hy=>by have:=h y hy;omega
theorem A0y {n:Int} (h:0≤n∧n≤255):0≤n∧n<256:=by omega
theorem A5e {a:law04_Air} (h:(0≤a.Rose∧a.Rose≤255)∧(0≤a.Gates∧a.Gates≤255)∧(0≤a.Tilt∧a.Tilt≤255)∧(∀y∈a.Kinds,0≤y∧y≤255)∧(∀y∈a.Low,0≤y∧y≤255)∧(∀y∈a.Wide,0≤y∧y≤255)):AirIn a :=
 ⟨A0y h.1,A0y h.2.1,A0y h.2.2.1,U1 h.2.2.2.1,U1 h.2.2.2.2.1,U1 h.2.2.2.2.2⟩
end Go.Proofs.YtkjnafecmjakcaaGreatDoor
namespace Go.Proofs.YtkjnafecmjakcaaGreatDoor
open Go Go.RowKit Go.Eng
set_option maxRecDepth 10000
set_option linter.unusedVariables false
set_option linter.unusedSimpArgs false
def InSp (x y:api_Span):Prop:=x.Lo≤y.Lo∧y.Lo≤y.Hi∧y.Hi≤x.Hi
def RV (x y:sift_val):Prop:=(x=noV∧y=noV)∨(x.has=true∧y.has=true∧InSp x.span y.span)
def RT (t u:Int):Prop:=(1≤t∧t≤3)∧(1≤u∧u≤3)∧(t=2∨u=t)
theorem RT.mx {a b c d:Int} (h:RT a b) (h':RT c d):RT (mx a c) (mx b d):=by unfold RT Go.Proofs.YtkjnafecmjakcaaGreatDoor.mx at *;split<;>split<;>omega
theorem RT.mn {a b c d:Int} (h:RT a b) (h':RT c d):RT (mn a c) (mn b d):=by unfold RT Go.Proofs.YtkjnafecmjakcaaGreatDoor.mn at *;split<;>split<;>omega
theorem RT.tri {a b c d:Prop} [Decidable a] [Decidable b] [Decidable c] [Decidable d] (h1:a→c) (h2:¬a→¬b→¬c∧¬d):RT (tri a b) (tri c d):=by
 unfold RT Go.Proofs.YtkjnafecmjakcaaGreatDoor.tri
 by_cases ha:a
 ·have:=h1 ha;simp [ha,this]
 ·by_cases hb:b
  ·simp only [if_neg ha,if_pos hb];refine ⟨by omega,?_,.inl trivial⟩
   split
   ·omega
   ·split<;>omega
  ·have:=h2 ha hb;simp [ha,hb,this.1,this.2]
theorem X7 {op:Int} {x x' y y':api_Span} (hx:InSp x x') (hy:InSp y y'):RT (S3 op x y) (S3 op x' y'):=by
 obtain ⟨a1,a2,a3⟩:=hx;obtain ⟨b1,b2,b3⟩:=hy;unfold S3
 split
 ·exact RT.tri (by omega) (by omega)
 ·split
  ·exact RT.tri (by omega) (by omega)
  ·split
   ·refine RT.tri ?_ ?_
    ·unfold mx mn;split<;>split<;>split<;>split<;>omega
    ·unfold mx mn;split<;>split<;>split<;>split<;>omega
   ·refine RT.tri ?_ ?_
    ·omega
    ·unfold mx mn;split<;>split<;>split<;>split<;>omega
theorem A17 {op:Int} {x x' y y':sift_val} (hx:RV x x') (hy:RV y y'):RT (Vo op x y) (Vo op x' y'):=by
 rcases hx with ⟨rfl,rfl⟩|⟨h1,h2,h3⟩
 ·unfold Vo RT;simp [noV]
 ·rcases hy with ⟨rfl,rfl⟩|⟨k1,k2,k3⟩
  ·unfold Vo RT;simp [noV]
  ·have n1:¬(x.has=false∨y.has=false):=by simp [h1,k1]
   have n2:¬(x'.has=false∨y'.has=false):=by simp [h2,k2]
   unfold Vo;simp only [if_neg n1,if_neg n2]
   by_cases c:op=10∨op=11
   ·simp only [if_pos c];exact X7 k3 h3
   ·simp only [if_neg c];exact X7 h3 k3
theorem A1x {op:Int} {x x' y y':sift_val} (hx:RV x x') (hy:RV y y'):RV (Vs op x y) (Vs op x' y'):=by
 rcases hx with ⟨rfl,rfl⟩|⟨h1,h2,h3⟩
 ·exact .inl ⟨rfl,rfl⟩
 ·rcases hy with ⟨rfl,rfl⟩|⟨k1,k2,k3⟩
  ·exact .inl ⟨by unfold Vs;rw [if_pos (.inr rfl)],by unfold Vs;rw [if_pos (.inr rfl)]⟩
  ·refine .inr ?_;have n1:¬(x.has=false∨y.has=false):=by simp [h1,k1]
   have n2:¬(x'.has=false∨y'.has=false):=by simp [h2,k2]
   unfold InSp at *;unfold Vs;simp only [if_neg n1,if_neg n2]
   by_cases c:op=27
   ·simp only [if_pos c];exact ⟨trivial,trivial,by omega⟩
   ·simp only [if_neg c];exact ⟨trivial,trivial,by omega⟩
theorem A1s {op:Int} {l:List Int} {f g:Int→Int} (h:∀o∈l,RT (f o) (g o)):RT (Tc op l f) (Tc op l g):=by
 have key:∀(F:Int→Int→Int),(∀a b c d,RT a b→RT c d→RT (F a c) (F b d))→∀(l:List Int),(∀o∈l,RT (f o) (g o))→∀x y,RT x y→RT (l.foldl (fun a o=>F a (f o)) x) (l.foldl (fun a o=>F a (g o)) y):=by
  intro F hF l
  induction l with
  | nil=>intro _ x y hxy;exact hxy
  | cons o l ih=>intro hl x y hxy;exact ih (fun p hp=>hl p (by simp [hp])) _ _ (hF _ _ _ _ hxy (hl o (by simp)))
 unfold Tc
 split
 ·exact key Go.Proofs.YtkjnafecmjakcaaGreatDoor.mn (fun _ _ _ _ h h'=>h.mn h') l h 3 3 (by unfold RT;omega)
 ·exact key Go.Proofs.YtkjnafecmjakcaaGreatDoor.mx (fun _ _ _ _ h h'=>h.mx h') l h 1 1 (by unfold RT;omega)
theorem Zf {l:List Int} {f g:Int→Int} (h:∀o∈l,RT (f o) (g o)):RV (Q2 l f) (Q2 l g):=by
 refine .inr ⟨rfl,rfl,?_⟩;unfold InSp Q2;dsimp only;have key:∀l:List Int,(∀o∈l,RT (f o) (g o))→l.countP (fun o=>f o==1)≤l.countP (fun o=>g o==1)∧l.countP (fun o=>g o==1)≤l.countP (fun o=>g o != 3)∧l.countP (fun o=>g o != 3)≤l.countP (fun o=>f o != 3):=by
  intro l
  induction l with
  | nil=>simp
  | cons o l ih =>
   intro hl;have i:=ih fun p hp=>hl p (by simp [hp]);obtain ⟨c1,c2,c3⟩:=hl o (by simp);simp only [List.countP_cons];have e1:(f o==1)=true→(g o==1)=true:=by rw [beq_iff_eq,beq_iff_eq];omega
   have e2:(g o==1)=true→(g o != 3)=true:=by rw [beq_iff_eq,bne_iff_ne];omega
   have e3:(g o != 3)=true→(f o != 3)=true:=by rw [bne_iff_ne,bne_iff_ne];omega
   cases a:(f o==1)<;>cases b:(g o==1)<;>cases c:(g o != 3)<;>cases d:(f o != 3)<;>simp_all<;>omega
 have:=key l h;omega
structure RE (e e':api_Echo):Prop where
 kind:e'.Kind=e.Kind
 power:InSp e.Power e'.Power
 ratio:InSp e.Ratio e'.Ratio
 mat:InSp e.Match e'.Match
 turn:InSp e.Turn e'.Turn
 step:InSp e.Steps.1 e'.Steps.1
 spread:e'.Spread=e.Spread
structure RS (s s':api_Sweep) (R m:Nat):Prop where
 sw:Swp s R m
 sw':Swp s' R m
 tilt:s'.Tilt=s.Tilt
 echo:∀k:Int,0≤k→k<(R*m:Nat)→RE (rowS s k) (rowS s' k)
theorem X3 {x:Int}:RV (pt x) (pt x):=.inr ⟨rfl,rfl,by unfold InSp pt;dsimp only;omega⟩
theorem Ya {x y:api_Span} (h:InSp x y):RV ⟨x,true⟩ ⟨y,true⟩:=.inr ⟨rfl,rfl,h⟩
theorem Nv {c:Prop} [Decidable c] {a b a' b':sift_val} (h1:c→RV a a') (h2:¬c→RV b b'):RV (if c then a else b) (if c then a' else b'):=by
 by_cases h:c
 ·rw [if_pos h,if_pos h];exact h1 h
 ·rw [if_neg h,if_neg h];exact h2 h
theorem Zm {s s':api_Sweep} {R m:Nat} (h:RS s s' R m) {op v k:Int} (hk:0≤k∧k<(R*m:Nat)):RV (Q4 s op v k) (Q4 s' op v k):=by
 have e:=h.echo k hk.1 hk.2;unfold Q4;rw [e.kind,e.spread,h.tilt,h.sw.hm,h.sw'.hm];exact Nv (fun _=>X3) fun _=>Nv (fun _=>X3) fun _=>Nv (fun _=>X3) fun _=>Nv (fun _=>X3) fun _=>Nv (fun _=>X3) fun _=>Nv (fun _=>Ya e.power) fun _=>Nv (fun _=>.inl ⟨rfl,rfl⟩) fun _=>Nv (fun _=>Ya e.ratio) fun _=>Nv (fun _=>Ya e.mat) fun _=>Nv (fun _=>X3) fun _=>Nv (fun _=>.inl ⟨rfl,rfl⟩) fun _=>Nv (fun _=>Ya e.turn) fun _=>Ya e.step
theorem Wj {s s':api_Sweep} {R m:Nat} (h:RS s s' R m):∀(t:T) (k:Int),0≤k∧k<(R*m:Nat)→(okT true t→RT (t.sem s k).1 (t.sem s' k).1)∧(okT false t→RV (t.sem s k).2 (t.sem s' k).2):=by
 have h4:=h.sw.R4;have h1:=h.sw.m1;have hn:∀{k r g o:Int},o∈nbs s.Rays.length s.Site.Gates k r g→0≤o∧o<(R*m:Nat):=by
  intro k r g o ho;rw [h.sw.hR,h.sw.hm] at ho;have:=A0r (R:=(R:Int)) (m:=(m:Int)) (by omega) (by omega) ho;rw [Int.natCast_mul];exact this
 have hsame:∀k r g,nbs s'.Rays.length s'.Site.Gates k r g=nbs s.Rays.length s.Site.Gates k r g:=by
  intro k r g;rw [h.sw.hR,h.sw.hm,h.sw'.hR,h.sw'.hm]
 intro t
 induction t with
 | leaf op v =>
  intro k hk;refine ⟨fun ho=>?_,fun _=>Zm h hk⟩;show RT (if op=1 then 1 else 3) (if op=1 then 1 else 3);unfold RT;split<;>omega
 | un op r g a ih =>
  intro k hk;simp only [T.sem];rw [hsame];refine ⟨fun ho=>?_,fun ho=>?_⟩
  ·simp only [okT] at ho
   by_cases h3:op=3
   ·rw [if_pos h3,if_pos h3];have:=(ih k hk).1 ho.2;unfold RT at *;omega
   ·rw [if_neg h3,if_neg h3];exact A1s fun o hm=>(ih o (hn hm)).1 ho.2
  ·simp only [okT] at ho;exact Zf fun o hm=>(ih o (hn hm)).1 ho.2
 | bin op a b iha ihb =>
  intro k hk;simp only [T.sem];refine ⟨fun ho=>?_,fun ho=>?_⟩
  ·simp only [okT] at ho;rcases ho with ho|ho
   ·have i:=(iha k hk).1 ho.2.1;have j:=(ihb k hk).1 ho.2.2
    by_cases h4:op=4
    ·rw [if_pos h4,if_pos h4];exact i.mx j
    ·rw [if_neg h4,if_neg h4,if_pos (by omega),if_pos (by omega)];exact i.mn j
   ·rw [if_neg (by omega),if_neg (by omega),if_neg (by omega),if_neg (by omega)];exact A17 ((iha k hk).2 ho.2.2.1) ((ihb k hk).2 ho.2.2.2)
  ·simp only [okT] at ho;exact A1x ((iha k hk).2 ho.2.1) ((ihb k hk).2 ho.2.2.1)
def PV (x:sift_val):Prop:=x.has=true→x.span.Lo=x.span.Hi
def PT (t:Int):Prop:=t=1∨t=3
structure PE (e:api_Echo):Prop where
 power:e.Power.Lo=e.Power.Hi
 ratio:e.Ratio.Lo=e.Ratio.Hi
 mat:e.Match.Lo=e.Match.Hi
 turn:e.Turn.Lo=e.Turn.Hi
 step:e.Steps.1.Lo=e.Steps.1.Hi
theorem PT.tri {a b:Prop} [Decidable a] [Decidable b] (h:b→a):PT (tri a b):=by
 unfold PT Go.Proofs.YtkjnafecmjakcaaGreatDoor.tri
 by_cases ha:a
 ·simp [ha]
 ·have:¬b:=fun hb=>ha (h hb);simp [ha,this]
theorem A0c {op:Int} {x y:api_Span} (hx:x.Lo=x.Hi) (hy:y.Lo=y.Hi):PT (S3 op x y):=by
 unfold S3
 split
 ·exact PT.tri (by omega)
 ·split
  ·exact PT.tri (by omega)
  ·split
   ·refine PT.tri ?_;unfold mx mn;split<;>split<;>omega
   ·refine PT.tri ?_;unfold mx mn;split<;>split<;>omega
theorem X2 {x:Int}:PV (pt x):=fun _=>rfl
theorem Y9 {x:api_Span} (h:x.Lo=x.Hi):PV ⟨x,true⟩:=fun _=>h
theorem A22:PV noV:=fun h=>by cases h
theorem Nu {c:Prop} [Decidable c] {a b:sift_val} (h1:c→PV a) (h2:¬c→PV b):PV (if c then a else b):=by
 by_cases h:c
 ·rw [if_pos h];exact h1 h
 ·rw [if_neg h];exact h2 h
theorem A1v {s:api_Sweep} {R m:Nat} (h:Swp s R m) (hp:∀k:Int,0≤k→k<(R*m:Nat)→PE (rowS s k)):∀(t:T) (k:Int),0≤k∧k<(R*m:Nat)→(okT true t→PT (t.sem s k).1)∧(okT false t→PV (t.sem s k).2):=by
 have h4:=h.R4;have h1:=h.m1;have hn:∀{k r g o:Int},o∈nbs s.Rays.length s.Site.Gates k r g→0≤o∧o<(R*m:Nat):=by
  intro k r g o ho;rw [h.hR,h.hm] at ho;have:=A0r (R:=(R:Int)) (m:=(m:Int)) (by omega) (by omega) ho;rw [Int.natCast_mul];exact this
 intro t
 induction t with
 | leaf op v =>
  intro k hk;have e:=hp k hk.1 hk.2;refine ⟨fun ho=>?_,fun _=>?_⟩
  ·simp only [T.sem,PT];split<;>omega
  ·simp only [T.sem,Q4];exact Nu (fun _=>X2) fun _=>Nu (fun _=>X2) fun _=>Nu (fun _=>X2) fun _=>Nu (fun _=>X2) fun _=>Nu (fun _=>X2) fun _=>Nu (fun _=>Y9 e.power) fun _=>Nu (fun _=>A22) fun _=>Nu (fun _=>Y9 e.ratio) fun _=>Nu (fun _=>Y9 e.mat) fun _=>Nu (fun _=>X2) fun _=>Nu (fun _=>A22) fun _=>Nu (fun _=>Y9 e.turn) fun _=>Y9 e.step
 | un op r g a ih =>
  intro k hk;simp only [T.sem];refine ⟨fun ho=>?_,fun ho=>?_⟩
  ·simp only [okT] at ho
   by_cases h3:op=3
   ·rw [if_pos h3];have:=(ih k hk).1 ho.2;unfold PT at *;omega
   ·rw [if_neg h3];have key:∀(F:Int→Int→Int),(∀a c,PT a→PT c→PT (F a c))→∀(l:List Int),(∀o∈l,PT (a.sem s o).1)→∀x,PT x→PT (l.foldl (fun y o=>F y (a.sem s o).1) x):=by
     intro F hF l
     induction l with
     | nil=>intro _ x hx;exact hx
     | cons o l ih=>intro hl x hx;exact ih (fun p hp=>hl p (by simp [hp])) _ (hF _ _ hx (hl o (by simp)))
    unfold Tc
    split
    ·exact key Go.Proofs.YtkjnafecmjakcaaGreatDoor.mn (fun _ _ h h'=>by unfold PT Go.Proofs.YtkjnafecmjakcaaGreatDoor.mn at *;split<;>omega) _ (fun o hm=>(ih o (hn hm)).1 ho.2) 3 (.inr rfl)
    ·exact key Go.Proofs.YtkjnafecmjakcaaGreatDoor.mx (fun _ _ h h'=>by unfold PT Go.Proofs.YtkjnafecmjakcaaGreatDoor.mx at *;split<;>omega) _ (fun o hm=>(ih o (hn hm)).1 ho.2) 1 (.inl rfl)
  ·simp only [okT] at ho;intro _;unfold Q2;dsimp only
   congr 1
   apply List.countP_congr;intro o hm;have:=(ih o (hn hm)).1 ho.2;unfold PT at this;rw [beq_iff_eq,bne_iff_ne];omega
 | bin op a b iha ihb =>
  intro k hk;simp only [T.sem];refine ⟨fun ho=>?_,fun ho=>?_⟩
  ·simp only [okT] at ho;rcases ho with ho|ho
   ·have i:=(iha k hk).1 ho.2.1;have j:=(ihb k hk).1 ho.2.2
    by_cases h4:op=4
    ·rw [if_pos h4];unfold PT mx at *;split<;>omega
    ·rw [if_neg h4,if_pos (by omega)];unfold PT mn at *;split<;>omega
   ·rw [if_neg (by omega),if_neg (by omega)];have i:=(iha k hk).2 ho.2.2.1;have j:=(ihb k hk).2 ho.2.2.2;unfold Vo
    split
    ·exact .inr rfl
    ·rename_i hh
     have x1:(a.sem s k).2.has=true:=by cases e:(a.sem s k).2.has<;>simp_all
     have x2:(b.sem s k).2.has=true:=by cases e:(b.sem s k).2.has<;>simp_all
     split
     ·exact A0c (j x2) (i x1)
     ·exact A0c (i x1) (j x2)
  ·simp only [okT] at ho;have i:=(iha k hk).2 ho.2.1;have j:=(ihb k hk).2 ho.2.2.1;unfold Vs
   split
   ·exact A22
   ·rename_i hh
    have x1:(a.sem s k).2.has=true:=by cases e:(a.sem s k).2.has<;>simp_all
    have x2:(b.sem s k).2.has=true:=by cases e:(b.sem s k).2.has<;>simp_all
    have:=i x1;have:=j x2
    split
    ·intro _;dsimp only;omega
    ·intro _;dsimp only;omega
end Go.Proofs.YtkjnafecmjakcaaGreatDoor
namespace Go.Proofs.YtkjnafecmjakcaaGreatDoor
open Go Go.RowKit Go.Eng
set_option maxRecDepth 10000
set_option linter.unusedVariables false
set_option linter.unusedSimpArgs false
theorem A3z (s:api_Sweep) (N:Nat):Inv s N ⟨s,N,[],[]⟩:=⟨rfl,rfl,(fun t l _ h=>by cases h),(fun t l _ h=>by cases h)⟩
section
variable {s:api_Sweep} {R m:Nat} {t:T} {F:Nat} {a i:Int}
theorem A0l (ha:0≤a∧a<R) (hi:0≤i∧i<m):0≤a*m+i∧a*m+i<(R*m:Nat):=by
 have:=Zu ha.1 ha.2 hi.1 hi.2;rw [Int.natCast_mul];exact this
theorem A08 (h:Swp s R m) (hc:D9 F s=some 0) (ht:okT true t) (h1:t.size≤300) (h2:t.depth≤12) (hF:4000≤F) (ha:0≤a∧a<R) (hi:0≤i∧i<m) :
  L0 F t.node s a i=some ((t.sem s (a*m+i)).1,0):=by
 have hN:=h.N1;have hR:=h.R4;have hm:=h.m1;have hg:=A0l ha hi;have hk:=ht.kind.1;have ham:0≤a*m:=Int.mul_nonneg ha.1 (by omega);obtain ⟨d',q1,-⟩:=(A0t h t F ⟨s,(R*m:Nat),[],[]⟩ (by omega) (by omega) (A3z s _)).1 ht;unfold L0 Ls L4;rw [W3 t F 300 (by omega) (by omega) (by omega),sbd,Ao (dF (by omega)),A0f t F (by have:=t.depth_le;omega) (by omega),sbd,Ao (dF (by omega)),hk,gdT (g:=(!true)==false&&true) rfl,Xk t true F ht (by omega),sbd,Ao (c:=bif !true then true else !true) rfl,hc,sbd,Ao (neF rfl),h.hR,h.hm,
  Ao (Wu (Wu (dF (by split<;>omega)) (dF (by omega))) (dF (by omega))),ckb (by rw [←Int.natCast_mul];omega),sbd,sbd]
 unfold exc;dsimp only;rw [Ao (neF rfl),ckb (by omega),ckb (by omega)];rw [show ((R:Int)*(m:Int))=((R*m:Nat):Int) from (Int.natCast_mul ..).symm];show (Cy F ⟨s,(R*m:Nat),[],[]⟩ t.node).bind _=_;rw [q1,sbd,Rn hg]
end
end Go.Proofs.YtkjnafecmjakcaaGreatDoor
namespace Go.Proofs.YtkjnafecmjakcaaGreatDoor
open Go Go.RowKit Go.Eng
set_option maxRecDepth 10000
set_option linter.unusedVariables false
set_option linter.unusedSimpArgs false
theorem Pd {x:api_Span} {p:List Int} (hp:byts p) (F:Nat) {i:Int} (hi:0≤i∧i≤100000) (h:-4294967296≤x.Lo∧x.Lo≤x.Hi∧x.Hi≤4294967296) (q:Bool) :
  ∃y,Cx F x p i q=some y∧InSp x y∧(q=true→y.Lo=y.Hi):=by
 obtain ⟨a,a1,a2,a3⟩:=N0 hp F (i:=i) (n:=x.Hi-x.Lo+1) hi.1 (by omega);unfold Cx A9;rw [ckb (by omega),ckb (by omega),a1,sbd,ckb (by omega)]
 cases q
 ·obtain ⟨b,b1,b2,b3⟩:=N0 hp F (i:=i+1) (n:=x.Hi-(x.Lo+a)+1) (by omega) (by omega);rw [Ao rfl,ckb (by omega),ckb (by omega),ckb (by omega),b1,sbd,ckb (by omega)];exact ⟨_,rfl,by unfold InSp;dsimp only;omega,fun e=>by cases e⟩
 ·rw [Bf rfl];exact ⟨_,rfl,by unfold InSp;dsimp only;omega,fun _=>rfl⟩
theorem Vm {x y:api_Span} (h:zS x) (i:InSp x y):zS y:=by unfold zS InSp at *;omega
theorem Xx {x y:api_Span} {lo hi:Int} (h:inS x lo hi) (i:InSp x y):inS y lo hi:=by unfold inS InSp at *;omega
theorem A03 {x y:api_Span} (h:trS x) (i:InSp x y):trS y:=by unfold trS InSp at *;omega
theorem A6b {e:api_Echo} {a b:Int} {y1 y2 y3 y4 y5:api_Span} (he:okE e) (ha:InSp e.Power ⟨a,b⟩) (hk:e.Kind=1→a=0) (i1:InSp e.Ratio y1) (i2:InSp e.Match y2) (i3:InSp e.Turn y3) (i4:InSp e.Steps.1 y4) (i5:InSp e.Steps.2 y5) :
  okE ⟨e.Kind,⟨a,b⟩,(y4,y5),e.Spread,y1,y2,y3⟩:=by
 rcases he with ⟨h1,h2,h3,h4,h5,h6,h7,h8,h9⟩|⟨h1,h2,h3,h4,h5,h6,h7,h8,h9⟩
 ·exact .inl ⟨h1,Xx h2 ha,hk h1,Vm h4 i4,Vm h5 i5,h6,Vm h7 i1,Vm h8 i2,Vm h9 i3⟩
 ·refine .inr ⟨h1,Xx h2 ha,?_,Xx h4 i1,Xx h5 i2,h6,h7,fun e=>?_,fun e=>?_⟩
  ·unfold InSp at ha;dsimp only at *;omega
  ·obtain ⟨z1,z2,z3⟩:=h8 e;exact ⟨Vm z1 i4,Vm z2 i5,Vm z3 i3⟩
  ·obtain ⟨z1,z2,z3⟩:=h9 e;exact ⟨A03 z1 i4,A03 z2 i5,A03 z3 i3⟩
def fit (x:api_Span):Prop:=-4294967296≤x.Lo∧x.Lo≤x.Hi∧x.Hi≤4294967296
theorem zS.fit {x:api_Span} (h:zS x):fit x:=by unfold zS at h;unfold Go.Proofs.YtkjnafecmjakcaaGreatDoor.fit;omega
theorem inS.fit {x:api_Span} {lo hi:Int} (h:inS x lo hi) (h0:0≤lo∧hi≤1073741824):fit x:=by unfold inS at h;unfold Go.Proofs.YtkjnafecmjakcaaGreatDoor.fit;omega
theorem trS.fit {x:api_Span} (h:trS x):fit x:=by unfold trS at h;unfold Go.Proofs.YtkjnafecmjakcaaGreatDoor.fit;omega
theorem okE.fits {e:api_Echo} (he:okE e):fit e.Power∧fit e.Ratio∧fit e.Match∧fit e.Turn∧fit e.Steps.1∧fit e.Steps.2:=by
 rcases he with ⟨h1,h2,h3,h4,h5,h6,h7,h8,h9⟩|⟨h1,h2,h3,h4,h5,h6,h7,h8,h9⟩
 ·exact ⟨h2.fit (by omega),h7.fit,h8.fit,h9.fit,h4.fit,h5.fit⟩
 ·rcases h1 with e|e
  ·obtain ⟨z1,z2,z3⟩:=h8 e;exact ⟨h2.fit (by omega),h4.fit (by omega),h5.fit (by omega),z3.fit,z1.fit,z2.fit⟩
  ·obtain ⟨z1,z2,z3⟩:=h9 e;exact ⟨h2.fit (by omega),h4.fit (by omega),h5.fit (by omega),z3.fit,z1.fit,z2.fit⟩
structure RE2 (q:Bool) (e e':api_Echo):Prop where
 re:RE e e'
 ok:okE e'
 pt:q=true→PE e'
def A23 (q:Bool) (l l':List api_Echo):Prop:=l'.length=l.length∧∀(i:Nat) e,l[i]? = some e→∃e',l'[i]? = some e'∧RE2 q e e'
set_option maxHeartbeats 2000000 in
theorem Xm {s:api_Sweep} {r m:Nat} (h:Okw s r m) {p:List Int} (hp:byts p) (q:Bool) {F:Nat} (hF:50≤F) :
  ∃s',Mf F s p q=some s'∧Okw s' r m∧RS s s' (4*r) m∧(q=true→∀k:Int,0≤k→k<(4*r*m:Nat)→PE (rowS s' k)):=by
 have h1:=h.r1;have h2:=h.m1;have hl:=h.len;have l5:∀(row:List api_Echo),row∈s.Rays→∀(st:List (List api_Echo)) (b:Int) (k2:List (List api_Echo)→Int→Int→Option api_Sweep),st.length≤20→0≤b∧b≤20 →
   ∀(n j:Nat) (k:Int) (l:List api_Echo),m+1≤n+j→j≤m→0≤k∧k+7*(m-j)≤10000→A23 q (row.take j) l →
   ∃row',A23 q row row'∧E5 F p q st b k2 row n l j k=k2 (st++[row']) (b+1) (k+7*(m-j)):=by
  intro row hrow st b k2 hst hb n;obtain ⟨e1,e2⟩:=h.rows row hrow
  induction n with
  | zero=>intro j k l h1 h2;omega
  | succ n ih =>
   intro j k l h4 h5 h6 h7;have hlj:l.length=j:=by have:=h7.1;simp at this;omega
   show ∃row',_∧Jl F p q st b k2 row (E5 F p q st b k2 row n) l j k=_;unfold Jl
   by_cases c:j<m
   ·have hx:=List.getElem?_eq_getElem (show j<row.length by omega);have he:=e2 _ (List.getElem_mem (show j<row.length by omega));generalize row[j]=e at hx he;obtain ⟨f0,f1,f2,f3,f4,f5⟩:=he.fits;have k6:∀a b',InSp e.Power ⟨a,b'⟩→(e.Kind=1→a=0)→(q=true→a=b')→∃row',A23 q row row'∧Gs F p q l j k (E5 F p q st b k2 row n) e a b'=k2 (st++[row']) (b+1) (k+7*(m-j)):=by
     intro a b' ha hk hq;obtain ⟨y1,p1,i1,t1⟩:=Pd hp F (i:=k+1) (by omega) (x:=e.Ratio) f1 q;obtain ⟨y2,p2,i2,t2⟩:=Pd hp F (i:=k+2) (by omega) (x:=e.Match) f2 q;obtain ⟨y3,p3,i3,t3⟩:=Pd hp F (i:=k+3) (by omega) (x:=e.Turn) f3 q;obtain ⟨y4,p4,i4,t4⟩:=Pd hp F (i:=k+4) (by omega) (x:=e.Steps.1) f4 q;obtain ⟨y5,p5,i5,t5⟩:=Pd hp F (i:=k+5) (by omega) (x:=e.Steps.2) f5 q;unfold Gs;rw [ckb (by omega),p1,sbd,ckb (by omega),p2,sbd,ckb (by omega),p3,sbd,ckb (by omega),show Cx F ⟨e.Steps.1.Lo,e.Steps.1.Hi⟩ p (k+4) q=some y4 from p4,sbd,ckb (by omega),show Cx F ⟨e.Steps.2.Lo,e.Steps.2.Hi⟩ p (k+5) q=some y5 from p5,sbd,
      show apd 112 l [(⟨e.Kind,⟨a,b'⟩,(y4,y5),e.Spread,y1,y2,y3⟩:api_Echo)]=some (l++[(⟨e.Kind,⟨a,b'⟩,(y4,y5),e.Spread,y1,y2,y3⟩:api_Echo)]) by unfold apd;rw [if_pos (by simp;omega)],sbd,ckb (by omega),ckb (by omega)]
     have hre:RE2 q e ⟨e.Kind,⟨a,b'⟩,(y4,y5),e.Spread,y1,y2,y3⟩:=by
      exact ⟨⟨rfl,ha,i1,i2,i3,i4,rfl⟩,A6b he ha hk i1 i2 i3 i4 i5,fun hqt=>⟨hq hqt,t1 hqt,t2 hqt,t3 hqt,t4 hqt⟩⟩
     obtain ⟨row',r1,r2⟩:=ih (j+1) (k+7) (l++[(⟨e.Kind,⟨a,b'⟩,(y4,y5),e.Spread,y1,y2,y3⟩:api_Echo)]) (by omega) (by omega) (by omega) ⟨by simp;omega,fun i x hi=>by
      by_cases hij:i<j
      ·obtain ⟨x',u1,u2⟩:=h7.2 i x (by rw [List.getElem?_take_of_lt (by omega)] at hi ⊢;exact hi);exact ⟨x',by rw [List.getElem?_append_left (by omega)];exact u1,u2⟩
      ·have hi3:=(List.getElem?_eq_some_iff.1 hi).1;have hij2:i=j:=by simp at hi3;omega
       subst hij2;rw [List.getElem?_take_of_lt (by omega),hx] at hi
       cases hi
       exact ⟨_,by rw [List.getElem?_append_right (by omega),hlj,Nat.sub_self];rfl,hre⟩⟩
     refine ⟨row',r1,?_⟩;rw [show k+7*((m:Int)-j)=k+7+7*(m-((j+1:Nat):Int)) by omega];exact r2
    obtain ⟨y0,p0,i0,t0⟩:=Pd hp F (i:=k) (by omega) (x:=e.Power) f0 q;rw [Bf (dT (by omega)),Fi j _ rfl hx,p0,sbd];unfold InSp at i0;unfold fit at f0
    by_cases c1:e.Kind=1
    ·have hz:e.Power.Lo=0:=by (rcases he with he|he;exact he.2.2.1;exact absurd c1 (by have:=he.1;omega))
     rw [Bf (eqT c1),ckb (by omega)];refine k6 _ _ ?_ (fun _=>rfl) (fun hq=>?_)
     ·unfold InSp A9;dsimp only;omega
     ·have:=t0 hq;unfold A9;dsimp only;omega
    ·rw [Ao (eqF c1)];exact k6 _ _ i0 (fun e=>absurd e c1) t0
   ·rw [Ao (dF (by omega))];have hjm:j=m:=by omega
    unfold Lq Lp;rw [show apd 24 st [l]=some (st++[l]) by unfold apd;rw [if_pos (by simp;omega)],sbd,ckb (by omega)];refine ⟨l,?_,by rw [show k+7*((m:Int)-j)=k by omega]⟩;rw [List.take_of_length_le (by omega)] at h7;exact h7
 have l2:∀(n j:Nat) (k:Int) (st:List (List api_Echo)),4*r+1≤n+j→j≤4*r→k=7*(j*m:Nat)→st.length=j→(∀(i:Nat) l,i<j→s.Rays[i]? = some l→∃l',st[i]? = some l'∧A23 q l l') →
   ∃st',E4 F s p q n st j k=some ⟨s.Site,s.Tilt,s.Time,st'⟩∧st'.length=4*r∧∀(i:Nat) l,s.Rays[i]? = some l→∃l',st'[i]? = some l'∧A23 q l l':=by
  intro n
  induction n with
  | zero=>intro j k st h1 h2;omega
  | succ n ih =>
   intro j k st h4 h5 h6 h7 h8;show ∃st',Jk F s p q (E4 F s p q n) st j k=_∧_;unfold Jk
   by_cases c:j<4*r
   ·have hjm:(j+1)*m≤48:=by
     have:=Nat.mul_le_mul (show j+1≤12 by omega) (show m≤4 by omega);omega
    rw [Nat.add_mul] at hjm;have hx:=List.getElem?_eq_getElem (show j<s.Rays.length by omega);have hm:=List.getElem_mem (show j<s.Rays.length by omega);generalize s.Rays[j]=row at hx hm;obtain ⟨row',r1,r2⟩:=l5 row hm st j (E4 F s p q n) (by omega) (by omega) F 0 k [] (by omega) (by omega) (by omega) ⟨rfl,fun i e hi=>by simp at hi⟩;rw [Bf (dT (by omega)),Fi j _ rfl hx,show E5 F p q st j (E4 F s p q n) row F [] 0 k=_ from r2];refine ih (j+1) _ (st++[row']) (by omega) (by omega) (by rw [Nat.add_mul];omega) (by simp;omega) (fun i l hi hl=>?_)
    by_cases hij:i<j
    ·obtain ⟨l',u1,u2⟩:=h8 i l hij hl;exact ⟨l',by rw [List.getElem?_append_left (by omega)];exact u1,u2⟩
    ·have hij2:i=j:=by omega
     subst hij2;rw [hx] at hl
     cases hl
     exact ⟨row',by rw [List.getElem?_append_right (by omega),h7,Nat.sub_self];rfl,r1⟩
   ·rw [Ao (dF (by omega))];refine ⟨st,rfl,by omega,fun i l hi=>?_⟩;exact h8 i l (by have:=(List.getElem?_eq_some_iff.1 hi).1;omega) hi
 obtain ⟨st',w1,w2,w3⟩:=l2 F 0 0 [] (by omega) (by omega) (by simp) rfl (fun i l hi=>by omega);have hok:Okw ⟨s.Site,s.Tilt,s.Time,st'⟩ r m:=by
  refine ⟨h.site,h.r1,h.m1,h.time,h.tilt,w2,fun l' hl'=>?_⟩;obtain ⟨i,hi,e⟩:=List.mem_iff_getElem.1 hl';have hi:i<st'.length:=hi;obtain ⟨l2,u1,u2,u3⟩:=w3 i _ (List.getElem?_eq_getElem (show i<s.Rays.length by omega));rw [List.getElem?_eq_getElem hi] at u1;have e2:l'=l2:=by rw [←e];exact Option.some.inj u1
  subst e2;obtain ⟨v1,v2⟩:=h.rows _ (List.getElem_mem (show i<s.Rays.length by omega));refine ⟨by omega,fun x hx=>?_⟩;obtain ⟨j,hj,ex⟩:=List.mem_iff_getElem.1 hx;obtain ⟨x',z1,z2⟩:=u3 j _ (List.getElem?_eq_getElem (by omega));rw [List.getElem?_eq_getElem hj] at z1;have e3:x=x':=by rw [←ex];exact Option.some.inj z1
  subst e3;exact z2.ok
 have hre:∀k:Int,0≤k→k<(4*r*m:Nat)→RE2 q (rowS s k) (rowS ⟨s.Site,s.Tilt,s.Time,st'⟩ k):=by
  intro k k1 k2;obtain ⟨row,g1,g2,-⟩:=Vw h.swp ⟨k1,k2⟩;obtain ⟨row',g3,g4,-⟩:=Vw hok.swp ⟨k1,k2⟩;obtain ⟨l2,u1,u2,u3⟩:=w3 _ _ g1;have e:row'=l2:=Option.some.inj (g3.symm.trans u1);subst e;obtain ⟨x',z1,z2⟩:=u3 _ _ g2;have e3:rowS ⟨s.Site,s.Tilt,s.Time,st'⟩ k=x':=Option.some.inj (g4.symm.trans z1);rw [e3];exact z2
 exact ⟨_,w1,hok,⟨h.swp,hok.swp,rfl,fun k k1 k2=>(hre k k1 k2).re⟩,fun hq k k1 k2=>(hre k k1 k2).pt hq⟩
end Go.Proofs.YtkjnafecmjakcaaGreatDoor
namespace Go.Proofs.YtkjnafecmjakcaaGreatDoor
open Go Go.RowKit Go.Eng
set_option maxRecDepth 10000
set_option linter.unusedVariables false
set_option linter.unusedSimpArgs false
end Go.Proofs.YtkjnafecmjakcaaGreatDoor
namespace Go.Proofs.YtkjnafecmjakcaaGreatDoor
open Go Go.RowKit Go.Eng
set_option maxRecDepth 10000
set_option linter.unusedVariables false
set_option linter.unusedSimpArgs false
def Nr (R m k o:Int) (x:Int×Int):Prop:=k%m-x.2≤o%m∧o%m≤k%m+x.2∧∃d,-x.1≤d∧d≤x.1∧(k/m+d)%R=o/m
theorem Nr.trans {R m k o p:Int} {x y:Int×Int} (h:Nr R m k o x) (h':Nr R m o p y):Nr R m k p (y.1+x.1,y.2+x.2):=by
 obtain ⟨a1,a2,d,d1,d2,d3⟩:=h;obtain ⟨b1,b2,e,e1,e2,e3⟩:=h';refine ⟨by dsimp only;omega,by dsimp only;omega,d+e,by dsimp only;omega,by dsimp only;omega,?_⟩;rw [←d3,Int.emod_add_emod] at e3;rw [←e3];congr 1;omega
theorem Nr.mono {R m k o:Int} {x y:Int×Int} (h:Nr R m k o x) (h1:x.1≤y.1) (h2:x.2≤y.2):Nr R m k o y:=by
 obtain ⟨a1,a2,d,d1,d2,d3⟩:=h;exact ⟨by omega,by omega,d,by omega,by omega,d3⟩
end Go.Proofs.YtkjnafecmjakcaaGreatDoor
namespace Go.Proofs.YtkjnafecmjakcaaGreatDoor
open Go Go.RowKit Go.Eng
set_option maxRecDepth 10000
set_option linter.unusedVariables false
set_option linter.unusedSimpArgs false
end Go.Proofs.YtkjnafecmjakcaaGreatDoor
namespace Go.Proofs.YtkjnafecmjakcaaGreatDoor
open Go Go.RowKit Go.Eng
set_option maxRecDepth 10000
set_option linter.unusedVariables false
set_option linter.unusedSimpArgs false
theorem Xy (s:api_Sweep) (k:Int) (p:ByteArray×T) (M:List (ByteArray×T)) (j:Int) (l:List Int):jv k (M6 s (p::M)) j l=if (p.2.sem s k).1=1 then ⟨j,l⟩ else if (p.2.sem s k).1=2 then jv k (M6 s M) (j+1) (l++[j]) else jv k (M6 s M) (j+1) l:=rfl
theorem Qn {s:api_Sweep} {R m:Nat} {L:List (ByteArray×T)} {b:Nat} (hb:b<R):(Mr s R m L)[b]? = some ((List.range m).map fun j=>jv ((b*m+j:Nat):Int) (M6 s L) 0 []):=by
 simp [Mr,hb]
theorem Ud (s:api_Sweep) (R m:Nat) (L:List (ByteArray×T)):(Mr s R m L).length=R:=by simp [Mr]
end Go.Proofs.YtkjnafecmjakcaaGreatDoor
namespace Go.Proofs.YtkjnafecmjakcaaGreatDoor
open Go Go.RowKit Go.Eng
set_option maxRecDepth 10000
set_option linter.unusedVariables false
set_option linter.unusedSimpArgs false
theorem Yc {l:List Int} {x:Int} (hl:l.length≤1000) {F:Nat} (hF:1001≤F):K6 F l x=some (decide (x∈l)):=by
 have go:∀(n j:Nat),l.length+1≤n+j→j≤l.length→(∀(i:Nat),i<j→l[i]?≠some x)→K8 l x n j=some (decide (x∈l)):=by
  intro n
  induction n with
  | zero=>intro j h1 h2;omega
  | succ n ih =>
   intro j h1 h2 h3;show K7 l x _ j=_;unfold K7
   by_cases hj:j<l.length
   ·have hx:=List.getElem?_eq_getElem hj;rw [Bf (dT (by omega)),Fi j _ rfl hx]
    by_cases e:l[j]=x
    ·rw [Bf (eqT e),dT (show x∈l from e▸List.getElem_mem hj)]
    ·rw [Ao (eqF e),ckb (by omega)];refine ih (j+1) (by omega) (by omega) fun i hi=>?_
     by_cases c:i=j
     ·subst c;rw [hx];exact fun h=>e (Option.some.inj h)
     ·exact h3 i (by omega)
   ·rw [Ao (dF (by omega))];have:¬x∈l:=fun h=>by
     obtain ⟨i,hi,e⟩:=List.mem_iff_getElem.1 h;exact h3 i (by omega) (by rw [List.getElem?_eq_getElem hi,e])
    rw [dF this];rfl
 exact go F 0 (by omega) (by omega) (fun i hi=>by omega)
theorem A5s {k:Int}:∀(fs:List (Int→Int)) (j:Int) (l:List Int),∀d∈l,d∈(jv k fs j l).Doubts:=by
 intro fs
 induction fs with
 | nil=>intro j l d h;exact h
 | cons f fs ih =>
  intro j l d h;rw [jv]
  split
  ·exact h
  ·split
   ·exact ih _ _ d (by simp [h])
   ·exact ih _ _ d h
theorem A0q {s s':api_Sweep} {k:Int}:∀(L:List (ByteArray×T)) (j:Int) (l l':List Int),(∀d∈l',d∈l)→(∀p∈L,RT (p.2.sem s k).1 (p.2.sem s' k).1) →
  ((jv k (M6 s' L) j l').Rule=(jv k (M6 s L) j l).Rule∨(jv k (M6 s' L) j l').Rule∈(jv k (M6 s L) j l).Doubts)∧∀d∈(jv k (M6 s' L) j l').Doubts,d∈(jv k (M6 s L) j l).Doubts:=by
 intro L
 induction L with
 | nil=>intro j l l' h _;exact ⟨.inl rfl,h⟩
 | cons p L ih =>
  intro j l l' h hr;obtain ⟨⟨a1,a2⟩,⟨b1,b2⟩,c⟩:=hr p (by simp);have hr':∀q∈L,RT (q.2.sem s k).1 (q.2.sem s' k).1:=fun q hq=>hr q (by simp [hq]);rw [Xy,Xy];generalize (p.2.sem s k).1=x at *;generalize (p.2.sem s' k).1=y at *
  by_cases x1:x=1
  ·have y1:y=1:=by omega
   rw [if_pos x1,if_pos y1];exact ⟨.inl rfl,h⟩
  ·rw [if_neg x1]
   by_cases x2:x=2
   ·rw [if_pos x2];have hs:∀d∈l++[j],d∈(jv k (M6 s L) (j+1) (l++[j])).Doubts:=A5s _ _ _
    by_cases y1:y=1
    ·rw [if_pos y1];exact ⟨.inr (hs j (by simp)),fun d hd=>hs d (by simp [h d hd])⟩
    ·rw [if_neg y1]
     by_cases y2:y=2
     ·rw [if_pos y2];exact ih _ _ _ (fun d hd=>by simp only [List.mem_append] at *;exact hd.imp (h d) id) hr'
     ·rw [if_neg y2];exact ih _ _ _ (fun d hd=>by simp [h d hd]) hr'
   ·have y1:y≠1:=by omega
    have y2:y≠2:=by omega
    rw [if_neg x2,if_neg y1,if_neg y2];exact ih _ _ _ h hr'
theorem A43 {s:api_Sweep} {k:Int}:∀(L:List (ByteArray×T)) (j:Int) (l:List Int),(∀p∈L,(p.2.sem s k).1≠2)→(jv k (M6 s L) j l).Doubts=l:=by
 intro L
 induction L with
 | nil=>intro j l _;rfl
 | cons p L ih =>
  intro j l h;rw [Xy,if_neg (h p (by simp))]
  split
  ·rfl
  ·exact ih _ _ fun q hq=>h q (by simp [hq])
end Go.Proofs.YtkjnafecmjakcaaGreatDoor
namespace Go.Proofs.YtkjnafecmjakcaaGreatDoor
open Go Go.RowKit Go.Eng
set_option maxRecDepth 10000
set_option linter.unusedVariables false
set_option linter.unusedSimpArgs false
theorem Xo {p w:List Int} {n:Int} {a:law04_Air} (hp:byts p) (hn:0≤n∧n<256) (ha:AirIn a) (hw:byts w):Jj 4000 p n a w=some true:=by
 generalize hF:4000=F;have hF2:4000≤F:=by omega
 have hwk:Nk F=some true:=by rw [←hF];exact A07
 obtain ⟨L,p',q1,q2,-⟩:=A37 hp hn true (F:=F) (by omega);obtain ⟨s,q3,q4⟩:=A5f ha (F:=F) (by omega);generalize (1+a.Rose%3).toNat=r at *;generalize (1+a.Gates%4).toNat=m at *;obtain ⟨s1,w1,o1,m1,-⟩:=Xm q4 hw false (F:=F) (by omega);obtain ⟨s2,w2,o2,m2,pt2⟩:=Xm q4 hw true (F:=F) (by omega);have hok:∀p∈L,okT true p.2:=fun p hp=>(q2.trees p hp).ok;have hgd:=q2.good;have hr1:=q4.r1;have hm1:=q4.m1;have hlen:=q4.len;have hll:=q2.len;have hpt:=A1v o2.swp (fun k h1 h2=>pt2 rfl k h1 h2);have l7:∀(b i:Nat),b<4*r→i<m→∀(k4:Int→Option Bool) (n j:Nat),L.length+1≤n+j→j≤L.length→Ga F (rl L,p') s s2 b i k4 n j=k4 ((i:Int)+1):=by
  intro b i hb hi k4 n;have hK:=A0l (R:=4*r) (m:=m) (a:=(b:Int)) (i:=(i:Int)) ⟨by omega,by omega⟩ ⟨by omega,by omega⟩
  induction n with
  | zero=>intro j h1 h2;omega
  | succ n ih =>
   intro j h1 h2;show G8 F (rl L,p') s s2 b i k4 _ j=_;unfold G8;dsimp only;rw [Q9]
   by_cases hj:j<L.length
   ·have hx:=List.getElem?_eq_getElem hj;have hmem:=List.getElem_mem hj;generalize L[j]=p at hx hmem;have hsz:=(q2.trees p hmem).size;have hdp:=(q2.trees p hmem).depth;have t0:=A08 (F:=F) (R:=4*r) (m:=m) (a:=(b:Int)) (i:=(i:Int)) q4.swp (q4.check (by omega)) (hok p hmem) (by omega) (by omega) hF2 ⟨by omega,by omega⟩ ⟨by omega,by omega⟩;have t1:=A08 (F:=F) (R:=4*r) (m:=m) (a:=(b:Int)) (i:=(i:Int)) o2.swp (o2.check (by omega)) (hok p hmem) (by omega) (by omega) hF2 ⟨by omega,by omega⟩ ⟨by omega,by omega⟩;have r1:=(Wj m2 p.2 _ hK).1 (hok p hmem);have r2:=(hpt p.2 _ hK).1 (hok p hmem);rw [Bf (dT (by omega)),Fi j _ rfl (Wg hx),show L0 F (rlN p).When s b i=_ from t0,sbd,show L0 F (rlN p).When s2 b i=_ from t1,sbd];dsimp only;generalize (p.2.sem s ((b:Int)*m+i)).1=x at *;generalize (p.2.sem s2 ((b:Int)*m+i)).1=y at *;unfold RT at r1;unfold PT at r2;rw [Ao (Wu (Wu (Wu (neF rfl) (neF rfl)) (by
     by_cases c:x=2
     ·rw [Ao (neF c)]
     ·rw [Bf (neT c),neF (by omega)])) (eqF (by omega))),ckb (by omega)]
    exact ih (j+1) (by omega) (by omega)
   ·rw [Ao (dF (by omega))];unfold J0;rw [ckb (by omega)]
 have l8:∀(b i:Nat),b<4*r→i<m→∀(k4:Int→Option Bool) (v u:sift_Verdict),v.Doubts.length≤1000→u.Doubts.length≤1000→(∀d∈u.Doubts,d∈v.Doubts)→∀(n j:Nat),u.Doubts.length+1≤n+j→j≤u.Doubts.length→Ea F (rl L,p') s s2 b i k4 v u n j=k4 ((i:Int)+1):=by
  intro b i hb hi k4 v u hv hu hsub n
  induction n with
  | zero=>intro j h1 h2;omega
  | succ n ih =>
   intro j h1 h2;show G9 F (rl L,p') s s2 b i k4 v u _ j=_;unfold G9
   by_cases hj:j<u.Doubts.length
   ·rw [Bf (dT (by omega)),Fi j _ rfl (List.getElem?_eq_getElem hj),Yc hv (by omega),sbd,dT (hsub _ (List.getElem_mem hj)),Ao (c:=!true) rfl,ckb (by omega)];exact ih (j+1) (by omega) (by omega)
   ·rw [Ao (dF (by omega))];exact l7 b i hb hi k4 F 0 (by omega) (by omega)
 have hsm:∀(x:api_Sweep) (k:Int),(jv k (M6 x L) 0 []).Doubts.length≤1000:=fun x k=>by have:=A5r k (M6 x L) 0 [];simp [M6] at this ⊢;omega
 have l4:∀(b:Nat),b<4*r→∀(k2:Int→Option Bool) (row:List sift_Verdict),row.length=m→∀(n i:Nat),m+1≤n+i→i≤m→D1 F (rl L,p') s s2 (Mr s (4*r) m L,0) (Mr s1 (4*r) m L,0) (Mr s2 (4*r) m L,0) b k2 row n i=k2 ((b:Int)+1):=by
  intro b hb k2 row hrow n
  induction n with
  | zero=>intro i h1 h2;omega
  | succ n ih =>
   intro i h1 h2;show G7 F (rl L,p') s s2 (Mr s (4*r) m L,0) (Mr s1 (4*r) m L,0) (Mr s2 (4*r) m L,0) b k2 row _ i=_;unfold G7;dsimp only
   by_cases hi:i<m
   ·have hK:(0:Int)≤((b*m+i:Nat):Int)∧((b*m+i:Nat):Int)<((4*r*m:Nat):Int):=by
     have h1:(b+1)*m≤4*r*m:=Nat.mul_le_mul_right m (by omega);rw [Nat.add_mul] at h1;omega
    have g:∀x:api_Sweep,((List.range m).map fun j=>jv ((b*m+j:Nat):Int) (M6 x L) 0 [])[i]? = some (jv ((b*m+i:Nat):Int) (M6 x L) 0 []):=fun x=>by simp [hi]
    obtain ⟨a1,a2⟩:=A0q (s:=s) (s':=s1) (k:=((b*m+i:Nat):Int)) L 0 [] [] (fun d hd=>hd) (fun p hp=>(Wj m1 p.2 _ hK).1 (hok p hp));obtain ⟨b1,b2⟩:=A0q (s:=s) (s':=s2) (k:=((b*m+i:Nat):Int)) L 0 [] [] (fun d hd=>hd) (fun p hp=>(Wj m2 p.2 _ hK).1 (hok p hp));have c1:=A43 (s:=s2) (k:=((b*m+i:Nat):Int)) L 0 [] (fun p hp=>by have:=(hpt p.2 _ hK).1 (hok p hp);unfold PT at this;omega);have s0:=hsm s ((b*m+i:Nat):Int);have s1':=hsm s1 ((b*m+i:Nat):Int);rw [Bf (dT (by omega)),Fi b _ rfl (Qn hb),Fi i _ rfl (g s),Fi b _ rfl (Qn hb),Fi i _ rfl (g s1)];generalize jv ((b*m+i:Nat):Int) (M6 s L) 0 []=v at *;generalize jv ((b*m+i:Nat):Int) (M6 s1 L) 0 []=u at *;have key:∀(x:Int) (y0:Bool) (f:Bool→Option Bool) (g2:Bool) , g2=true→x=v.Rule∨x∈v.Doubts→(gd ((x != v.Rule)==true&&g2) (K6 F v.Doubts x) default).bind f=f (bif (x != v.Rule) then true else false):=by
     intro x y0 f g2 hg2 hx;subst hg2
     by_cases c:x=v.Rule
     ·rw [neF c,gdF (g:=false==true&&true) rfl,sbd];rfl
     ·rw [neT c,gdT (g:=true==true&&true) rfl,Yc s0 (by omega),sbd,dT (hx.resolve_left c)];rfl
    rw [key u.Rule true _ _ rfl a1,Fi b _ rfl (Qn hb),Fi i _ rfl (g s2),Fi b _ rfl (Qn hb),Fi i _ rfl (g s2),Fi b _ rfl (Qn hb),Fi i _ rfl (g s2)];generalize jv ((b*m+i:Nat):Int) (M6 s2 L) 0 []=z at *;have e1:(bif (bif (u.Rule != v.Rule) then (!(bif (u.Rule != v.Rule) then true else false)) else false) then true else (((z.Doubts.length:Nat):Int) != 0))=false:=by
     rw [c1];cases (u.Rule != v.Rule)<;>rfl
    rw [e1,key z.Rule true _ (false==false&&true) rfl b1,Ao (c:=bif false then true else (bif (z.Rule != v.Rule) then (!(bif (z.Rule != v.Rule) then true else false)) else false)) (by cases (z.Rule != v.Rule)<;>rfl)]
    rw [show Ea F (rl L,p') s s2 b i (D1 F (rl L,p') s s2 (Mr s (4*r) m L,0) (Mr s1 (4*r) m L,0) (Mr s2 (4*r) m L,0) b k2 row n) v u F 0=_ from l8 b i hb hi _ v u s0 s1' a2 F 0 (by omega) (by omega)];exact ih (i+1) (by omega) (by omega)
   ·rw [Ao (dF (by omega))];unfold Hw;rw [ckb (by omega)]
 have l2:∀(n b:Nat),4*r+1≤n+b→b≤4*r→E9 F (rl L,p') s s2 (Mr s (4*r) m L,0) (Mr s1 (4*r) m L,0) (Mr s2 (4*r) m L,0) n b=some true:=by
  intro n
  induction n with
  | zero=>intro b h1 h2;omega
  | succ n ih =>
   intro b h1 h2;show G6 F (rl L,p') s s2 (Mr s (4*r) m L,0) (Mr s1 (4*r) m L,0) (Mr s2 (4*r) m L,0) _ b=_;unfold G6;dsimp only;rw [Ud]
   by_cases hb:b<4*r
   ·rw [Bf (dT (by omega)),Fi b _ rfl (Qn hb),show D1 F (rl L,p') s s2 (Mr s (4*r) m L,0) (Mr s1 (4*r) m L,0) (Mr s2 (4*r) m L,0) b (E9 F (rl L,p') s s2 (Mr s (4*r) m L,0) (Mr s1 (4*r) m L,0) (Mr s2 (4*r) m L,0) n) _ F 0=_ from l4 b hb _ _ (by simp) F 0 (by omega) (by omega)];exact ih (b+1) (by omega) (by omega)
   ·rw [Ao (dF (by omega))];unfold Hv;rw [hwk];rfl
 unfold Jj;rw [q1,sbd,q3,sbd,w1,sbd,w2,sbd];dsimp only;rw [W9 q4.swp hgd (by omega) (q4.check (by omega)),sbd,W9 o1.swp hgd (by omega) (o1.check (by omega)),sbd,W9 o2.swp hgd (by omega) (o2.check (by omega)),sbd];dsimp only;rw [Ud,Ud,Ud,Ao (Wu (Wu (Wu (Wu (Wu (neF rfl) (neF rfl)) (neF rfl)) (neF (by omega))) (neF rfl)) (neF rfl))];exact l2 F 0 (by omega) (by omega)
end Go.Proofs.YtkjnafecmjakcaaGreatDoor
