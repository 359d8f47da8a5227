import Derived.Test.YtkjnafecmjakcaaGreatDoorS9XD
set_option linter.unusedVariables false
set_option linter.unusedSimpArgs false
set_option linter.unusedSectionVars false
namespace Go.Proofs.YtkjnafecmjakcaaGreatDoor
open Go Go.RowKit Go.Eng
set_option maxRecDepth 10000
set_option linter.unusedVariables false
set_option linter.unusedSimpArgs false
theorem ckb {β:Type} {x:Int} {f:Int→Option β} (h:-9000000000000000000≤x∧x≤9000000000000000000):(ck x).bind f=f x:=by
 unfold ck;rw [if_pos (by omega)];rfl
theorem gdT {α:Type} {g:Bool} {o:Option α} {d:α} (h:g=true):gd g o d=o:=by subst h;rfl
theorem gdF {α:Type} {g:Bool} {o:Option α} {d:α} (h:g=false):gd g o d=some d:=by subst h;rfl
theorem Bp {α:Type} {c:Bool} {x y:α} (h:c=true):(bif c then x else y)=x:=by rw [h];rfl
theorem Ar {α:Type} {c:Bool} {x y:α} (h:c=false):(bif c then x else y)=y:=by rw [h];rfl
theorem sbd {α β:Type} {x:α} {f:α→Option β}:(some x).bind f=f x:=rfl
theorem dT {p:Prop} [Decidable p] (h:p):decide p=true:=decide_eq_true h
theorem dF {p:Prop} [Decidable p] (h:¬p):decide p=false:=decide_eq_false h
theorem Mm {α β:Type} {l:List α} {i:Int} {f:α→Option β} (n:Nat) (x:α) (hi:i=(n:Int)) (h:l[n]? = some x):(B0 l i).bind f=f x:=by
 subst hi;unfold B0;rw [if_pos (by omega),show ((n:Int)).toNat=n by omega,h];rfl
theorem Vu {α β:Type} {x:α} {l:List α} {f:α→Option β}:(B0 (x::l) 0).bind f=f x:=Mm 0 x rfl rfl
theorem A2t {α β:Type} {x y:α} {l:List α} {f:α→Option β}:(B0 (x::y::l) 1).bind f=f y:=Mm 1 y rfl rfl
inductive T where
 | leaf (op v:Int)
 | un (op r g:Int) (a:T)
 | bin (op:Int) (a b:T)
 deriving DecidableEq,Inhabited
def T.op:T→Int
 | .leaf op _=>op
 | .un op _ _ _=>op
 | .bin op _ _=>op
def T.node:T→sift_Node
 | .leaf op v=>⟨op,v,0,0,[]⟩
 | .un op r g a=>⟨op,0,r,g,[a.node]⟩
 | .bin op a b=>⟨op,0,0,0,[a.node,b.node]⟩
def T.size:T→Nat
 | .leaf _ _=>1
 | .un _ _ _ a=>1+a.size
 | .bin _ a b=>1+a.size+b.size
def T.depth:T→Nat
 | .leaf _ _=>1
 | .un _ _ _ a=>1+a.depth
 | .bin _ a b=>1+max a.depth b.depth
theorem A33 (t:T):t.node.Op=t.op:=by cases t<;>rfl
def okT:Bool→T→Prop
 | true,.leaf op v=>(op=1∨op=2)∧v=0
 | false,.leaf op v=>(op=14∧0≤v∧v≤1000000000)∨(15≤op∧op≤24∧v=0)
 | true,.un op r g a=>((op=3∧r=0∧g=0)∨((op=6∨op=7)∧0≤r∧r≤3∧0≤g∧g≤3))∧okT true a
 | false,.un op r g a=>(op=25∧0≤r∧r≤3∧0≤g∧g≤3)∧okT true a
 | true,.bin op a b=>((op=4∨op=5)∧okT true a∧okT true b)∨(8≤op∧op≤13∧okT false a∧okT false b)
 | false,.bin op a b=>(op=26∨op=27)∧okT false a∧okT false b∧b.op<26
theorem okT.kind:∀{t:T} {k:Bool},okT k t→sift_isCondition t.node=k∧sift_isValue t.node=!k:=by
 intro t k h;have key:∀op:Int,(k=true→1≤op∧op≤13)→(k=false→14≤op∧op≤27)→t.node.Op=op→sift_isCondition t.node=k∧sift_isValue t.node=!k:=by
  intro op h1 h2 h3;unfold sift_isCondition sift_isValue;rw [h3]
  cases k
  ·obtain ⟨a,b⟩:=h2 rfl;refine ⟨?_,?_⟩
   ·by_cases hc:op≥1
    ·rw [Bp (dT hc)];exact dF (by omega)
    ·rw [Ar (dF hc)]
   ·rw [Bp (dT (by omega))];exact dT (by omega)
  ·obtain ⟨a,b⟩:=h1 rfl;refine ⟨?_,?_⟩
   ·rw [Bp (dT (by omega))];exact dT (by omega)
   ·rw [Ar (dF (by omega))];rfl
 cases t with
 | leaf op v=>cases k<;>simp only [okT] at h<;>exact key op (fun e=>by cases e<;>omega) (fun e=>by cases e<;>omega) rfl
 | un op r g a=>cases k<;>simp only [okT] at h<;>exact key op (fun e=>by cases e<;>omega) (fun e=>by cases e<;>omega) rfl
 | bin op a b=>cases k<;>simp only [okT] at h<;>exact key op (fun e=>by cases e<;>omega) (fun e=>by cases e<;>omega) rfl
end Go.Proofs.YtkjnafecmjakcaaGreatDoor
namespace Go.Proofs.YtkjnafecmjakcaaGreatDoor
open Go Go.RowKit Go.Eng
set_option maxRecDepth 10000
set_option linter.unusedVariables false
set_option linter.unusedSimpArgs false
theorem T.size_pos (t:T):1≤t.size:=by cases t<;>simp only [T.size]<;>omega
theorem T.depth_le (t:T):t.depth≤t.size:=by
 induction t with
 | leaf op v=>simp only [T.depth,T.size];omega
 | un op r g a ih=>simp only [T.depth,T.size];omega
 | bin op a b iha ihb=>simp only [T.depth,T.size];omega
theorem U5 (F:Nat) (p:sift_Node) (m:Int):Ef (F+1) p m=Cp (Ef F) p m F 0 1:=rfl
theorem A5h {self_:sift_Node→Int→Option Int} {p:sift_Node} {m x y:Int} {n:Nat}:Cp self_ p m (n+1) x y=Gi self_ p m (Cp self_ p m n) x y:=rfl
theorem Yj {self_:sift_Node→Int→Option Int} {p u:sift_Node} {m x y z:Int} {n i:Nat} (hx:x=(i:Int)) (hi:p.Args[i]? = some u) (hl:p.Args.length≤2) (hm:y≤m) (hm2:0≤y∧m≤1000000) (hz:self_ u (m-y)=some z) (hz2:0≤z∧z≤1000000) :
  Cp self_ p m (n+1) x y=Cp self_ p m n (x+1) (y+z):=by
 have hlt:=(List.getElem?_eq_some_iff.1 hi).1;rw [A5h,Gi,Bp (dT (by omega)),Mm i u hx hi,Ar (dF (by omega)),ckb (by omega),hz,sbd,ckb (by omega),ckb (by omega)]
theorem Ww {self_:sift_Node→Int→Option Int} {p:sift_Node} {m x y:Int} {n:Nat} (hx:(p.Args.length:Int)≤x):Cp self_ p m (n+1) x y=some y:=by
 rw [A5h,Gi,Ar (dF (by omega))];rfl
theorem Yl:∀(t:T) (F:Nat) (m:Int),t.size+4≤F→(t.size:Int)≤m→m≤1000000→Ef F t.node m=some (t.size:Int):=by
 intro t
 induction t with
 | leaf op v =>
  intro F m hF h1 h2;obtain ⟨F,rfl⟩:∃G,F=G+2:=⟨F-2,by simp only [T.size] at hF;omega⟩;rw [U5];exact Ww (Int.le_refl _)
 | un op r g a ih =>
  intro F m hF h1 h2;simp only [T.size] at hF h1;have:=a.size_pos;obtain ⟨F,rfl⟩:∃G,F=G+3:=⟨F-3,by omega⟩;rw [U5];rw [Yj (p:=(T.un op r g a).node) (x:=0) (y:=1) (i:=0) (u:=a.node) rfl rfl (by simp [T.node]) (by omega) (by omega) (ih (F+2) (m-1) (by omega) (by omega) (by omega)) (by omega),Ww (by simp [T.node])];simp only [T.size];congr 1
 | bin op a b iha ihb =>
  intro F m hF h1 h2;simp only [T.size] at hF h1;have:=a.size_pos;have:=b.size_pos;obtain ⟨F,rfl⟩:∃G,F=G+4:=⟨F-4,by omega⟩;rw [U5];rw [Yj (p:=(T.bin op a b).node) (x:=0) (y:=1) (i:=0) (u:=a.node) rfl rfl (by simp [T.node]) (by omega) (by omega) (iha (F+3) (m-1) (by omega) (by omega) (by omega)) (by omega),
   Yj (p:=(T.bin op a b).node) (x:=0+1) (i:=1) (u:=b.node) rfl rfl (by simp [T.node]) (by omega) (by omega) (ihb (F+3) (m-(1+a.size)) (by omega) (by omega) (by omega)) (by omega),Ww (by simp [T.node])]
  simp only [T.size];congr 1
theorem Yn (F:Nat) (p:sift_Node):Jd (F+1) p=Eg (Jd F) p F 0 0:=rfl
theorem dpL {self_:sift_Node→Option Int} {p:sift_Node} {x y:Int} {n:Nat}:Eg self_ p (n+1) x y=Kb self_ p (Eg self_ p n) x y:=rfl
theorem A1f {self_:sift_Node→Option Int} {p u:sift_Node} {x y z:Int} {n i:Nat} (hy:y=(i:Int)) (hi:p.Args[i]? = some u) (hl:p.Args.length≤2) (hz:self_ u=some z) :
  Eg self_ p (n+1) x y=Eg self_ p n (if z>x then z else x) (y+1):=by
 have hlt:=(List.getElem?_eq_some_iff.1 hi).1;rw [dpL,Kb,Bp (dT (by omega)),Mm i u hy hi,hz,sbd,ckb (by omega)]
theorem Yo {self_:sift_Node→Option Int} {p:sift_Node} {x y:Int} {n:Nat} (hy:(p.Args.length:Int)≤y) (hx:-9000000000≤x∧x≤9000000000):Eg self_ p (n+1) x y=some (x+1):=by
 rw [dpL,Kb,Ar (dF (by omega)),Ng,ckb (by omega)]
theorem A2n:∀(t:T) (F:Nat),t.depth+4≤F→t.depth≤1000000→Jd F t.node=some (t.depth:Int):=by
 intro t
 induction t with
 | leaf op v =>
  intro F hF h1;obtain ⟨F,rfl⟩:∃G,F=G+2:=⟨F-2,by simp only [T.depth] at hF;omega⟩;rw [Yn];exact Yo (Int.le_refl _) (by omega)
 | un op r g a ih =>
  intro F hF h1;simp only [T.depth] at hF h1;obtain ⟨F,rfl⟩:∃G,F=G+3:=⟨F-3,by omega⟩;rw [Yn];rw [A1f (p:=(T.un op r g a).node) (y:=0) (i:=0) (u:=a.node) rfl rfl (by simp [T.node]) (ih (F+2) (by omega) (by omega)),Yo (by simp [T.node]) (by split<;>omega)];simp only [T.depth];congr 1;split<;>omega
 | bin op a b iha ihb =>
  intro F hF h1;simp only [T.depth] at hF h1;obtain ⟨F,rfl⟩:∃G,F=G+4:=⟨F-4,by omega⟩;rw [Yn];rw [A1f (p:=(T.bin op a b).node) (y:=0) (i:=0) (u:=a.node) rfl rfl (by simp [T.node]) (iha (F+3) (by omega) (by omega)),A1f (p:=(T.bin op a b).node) (y:=0+1) (i:=1) (u:=b.node) rfl rfl (by simp [T.node]) (ihb (F+3) (by omega) (by omega)),Yo (by simp [T.node]) (by split<;>split<;>omega)];simp only [T.depth];congr 1;split<;>split<;>omega
structure StL (self_:sift_Node→Option Bool) (p:sift_Node) (k:Bool) (L:Nat→Int→Option Bool):Prop where
 go:∀n (i:Nat) u,p.Args[i]? = some u→p.Args.length≤2→sift_isCondition u=k→sift_isValue u=!k→self_ u=some true→L (n+1) (i:Int)=L n ((i:Int)+1)
 fin:∀n x,(p.Args.length:Int)≤x→p.Op<26→L (n+1) x=some true
 fin2:∀n x u,(p.Args.length:Int)≤x→26≤p.Op→p.Args[1]? = some u→u.Op<26→L (n+1) x=some true
theorem A65 {self_:sift_Node→Option Bool} {p:sift_Node}:StL self_ p true (Jz self_ p):=by
 refine ⟨fun n i u hi hl h1 h2 h3=>?_,fun n x hx ho=>?_,fun n x u hx ho hu hu2=>?_⟩
 ·have hlt:=(List.getElem?_eq_some_iff.1 hi).1;show Dv self_ p _ _=_;rw [Dv,Bp (dT (by omega)),Mm i u rfl hi,h1,gdT (g:=(!true)==false&&true) rfl,h3,sbd,Ar (c:=bif (!true) then true else (!true)) rfl,ckb (by omega)]
 ·show Dv self_ p _ _=_;rw [Dv,Ar (dF (by omega)),Jv,Bp (dT ho)]
 ·show Dv self_ p _ _=_;rw [Dv,Ar (dF (by omega)),Jv,Ar (dF (by omega)),Mm (i:=1) 1 u rfl hu,dT hu2]
theorem A66 {self_:sift_Node→Option Bool} {p:sift_Node}:StL self_ p true (K0 self_ p):=by
 refine ⟨fun n i u hi hl h1 h2 h3=>?_,fun n x hx ho=>?_,fun n x u hx ho hu hu2=>?_⟩
 ·have hlt:=(List.getElem?_eq_some_iff.1 hi).1;show Dw self_ p _ _=_;rw [Dw,Bp (dT (by omega)),Mm i u rfl hi,h1,gdT (g:=(!true)==false&&true) rfl,h3,sbd,Ar (c:=bif (!true) then true else (!true)) rfl,ckb (by omega)]
 ·show Dw self_ p _ _=_;rw [Dw,Ar (dF (by omega)),Jw,Bp (dT ho)]
 ·show Dw self_ p _ _=_;rw [Dw,Ar (dF (by omega)),Jw,Ar (dF (by omega)),Mm (i:=1) 1 u rfl hu,dT hu2]
theorem A67 {self_:sift_Node→Option Bool} {p:sift_Node}:StL self_ p true (K1 self_ p):=by
 refine ⟨fun n i u hi hl h1 h2 h3=>?_,fun n x hx ho=>?_,fun n x u hx ho hu hu2=>?_⟩
 ·have hlt:=(List.getElem?_eq_some_iff.1 hi).1;show Dx self_ p _ _=_;rw [Dx,Bp (dT (by omega)),Mm i u rfl hi,h1,gdT (g:=(!true)==false&&true) rfl,h3,sbd,Ar (c:=bif (!true) then true else (!true)) rfl,ckb (by omega)]
 ·show Dx self_ p _ _=_;rw [Dx,Ar (dF (by omega)),Jx,Bp (dT ho)]
 ·show Dx self_ p _ _=_;rw [Dx,Ar (dF (by omega)),Jx,Ar (dF (by omega)),Mm (i:=1) 1 u rfl hu,dT hu2]
theorem A68 {self_:sift_Node→Option Bool} {p:sift_Node}:StL self_ p false (K2 self_ p):=by
 refine ⟨fun n i u hi hl h1 h2 h3=>?_,fun n x hx ho=>?_,fun n x u hx ho hu hu2=>?_⟩
 ·have hlt:=(List.getElem?_eq_some_iff.1 hi).1;show Dy self_ p _ _=_;rw [Dy,Bp (dT (by omega)),Mm i u rfl hi,h2,gdT (g:=(!!false)==false&&true) rfl,h3,sbd,Ar (c:=bif (!!false) then true else (!true)) rfl,ckb (by omega)]
 ·show Dy self_ p _ _=_;rw [Dy,Ar (dF (by omega)),Jy,Bp (dT ho)]
 ·show Dy self_ p _ _=_;rw [Dy,Ar (dF (by omega)),Jy,Ar (dF (by omega)),Mm (i:=1) 1 u rfl hu,dT hu2]
theorem A0q {g r v:Int} (hg:0≤g) (hr:0≤r) (hv:0≤v):¬(if g<if r<v then r else v then g else if r<v then r else v)<0:=by split<;>split<;>omega
theorem A0p {g r m:Int} (hg:g≤m) (hr:r≤m):¬(if g>r then g else r)>m:=by split<;>omega
theorem eqT {a b:Int} (h:a=b):(a==b)=true:=by subst h;exact beq_self_eq_true _
theorem eqF {a b:Int} (h:a≠b):(a==b)=false:=beq_eq_false_iff_ne.2 h
theorem neF {a b:Int} (h:a=b):(a != b)=false:=by subst h;simp
theorem neT {a b:Int} (h:a≠b):(a != b)=true:=by simp [h]
theorem A0x:∀(t:T) (k:Bool) (F:Nat),okT k t→t.size+5≤F→D8 F t.node=some true:=by
 intro t
 induction t with
 | leaf op v =>
  intro k F h hF;obtain ⟨F,rfl⟩:∃G,F=G+2:=⟨F-2,by simp only [T.size] at hF;omega⟩;have hk:=h.kind;show Ek (F+1) (D8 (F+1)) ⟨op,v,0,0,[]⟩=_;have h3:op≠3∧op≠4∧op≠5∧op≠6∧op≠7∧op≠25∧op≠26∧op≠27∧¬(8≤op∧op≤13)∧op<26∧0≤v∧(op=14→v≤1000000000)∧(op≠14→v=0):=by
   cases k<;>simp only [okT] at h<;>refine ⟨?_,?_,?_,?_,?_,?_,?_,?_,?_,?_,?_,?_,?_⟩<;>omega
  obtain ⟨a1,a2,a3,a4,a5,a6,a7,a8,a9,a10,a11,a12,a13⟩:=h3;have e8:(bif decide (op≥8) then decide (op≤13) else false)=false:=by
   by_cases hc:op≥8
   ·rw [Bp (dT hc)];exact dF (by omega)
   ·rw [Ar (dF hc)]
  have hL:(([]:List sift_Node).length:Int)=0:=rfl;unfold Ek;dsimp only;rw [Ar (eqF a1),eqF a2,eqF a3,Ar (c:=false) rfl,Ar (c:=false) rfl,eqF a4,eqF a5,eqF a6,Ar (c:=false) rfl,Ar (c:=false) rfl,Ar (c:=false) rfl,e8,eqF a7,eqF a8,Ar (c:=false) rfl,Ar (c:=false) rfl,Ar (c:=false) rfl]
  by_cases h14:op=14
  ·rw [Bp (eqT h14),hL,neF rfl,Ar (c:=false) rfl,dF (A0q (Int.le_refl 0) (Int.le_refl 0) a11),Ar (c:=false) rfl,dF (show ¬v>1000000000 by have:=a12 h14;omega),Ar (c:=false) rfl,dF (A0p (Int.le_refl 0) (Int.le_refl 0)),Ar (c:=false) rfl];show Ja _ _ _ _=_;rw [Ja,Ar (dF (by simp)),Ln,Bp (dT a10)]
  ·have hv:=a13 h14;subst hv;rw [Ar (eqF h14)];have e9:(bif (!(sift_isCondition ⟨op,0,0,0,[]⟩)) then (!(sift_isValue ⟨op,0,0,0,[]⟩)) else false)=false:=by
    have h1:sift_isCondition ⟨op,0,0,0,[]⟩=k:=hk.1;have h2:sift_isValue ⟨op,0,0,0,[]⟩=!k:=hk.2;rw [h1,h2];cases k<;>rfl
   rw [Ar e9,hL,neF rfl,Ar (c:=false) rfl,dF (A0q (Int.le_refl 0) (Int.le_refl 0) (Int.le_refl 0)),Ar (c:=false) rfl,dF (show ¬(0:Int)>0 by omega),Ar (c:=false) rfl,dF (A0p (Int.le_refl 0) (Int.le_refl 0)),Ar (c:=false) rfl];show Jb _ _ _ _=_;rw [Jb,Ar (dF (by simp)),Kv,Bp (dT a10)]
 | un op r g a ih =>
  intro k F h hF;simp only [T.size] at hF;have:=a.size_pos;obtain ⟨F,rfl⟩:∃G,F=G+3:=⟨F-3,by omega⟩;show Ek (F+2) (D8 (F+2)) ⟨op,0,r,g,[a.node]⟩=_;have ha:okT true a:=by cases k<;>simp only [okT] at h<;>exact h.2
  have hs:=ih true (F+2) ha (by omega);have hk:=ha.kind;have hL:(([a.node]:List sift_Node).length:Int)=1:=rfl;have fin:∀(L:Nat→Int→Option Bool),StL (D8 (F+2)) ⟨op,0,r,g,[a.node]⟩ true L→op<26→L (F+2) 0=some true:=fun L hLL ho=>by
   have h1:=hLL.go (F+1) 0 a.node rfl (by simp) hk.1 hk.2 hs;have h2:=hLL.fin F ((0:Nat)+1:Int) (by simp) ho;exact h1.trans h2
  unfold Ek;dsimp only
  by_cases h3:op=3
  ·have hrg:r=0∧g=0:=by cases k<;>simp only [okT] at h<;>omega
   obtain ⟨rfl,rfl⟩:=hrg;rw [Bp (eqT h3),hL,neF rfl,Ar (c:=false) rfl,dF (A0q (Int.le_refl 0) (Int.le_refl 0) (Int.le_refl 0)),Ar (c:=false) rfl,dF (show ¬(0:Int)>0 by omega),Ar (c:=false) rfl,dF (A0p (Int.le_refl 0) (Int.le_refl 0)),Ar (c:=false) rfl];exact fin _ A65 (by omega)
  ·have hop:(op=6∨op=7∨op=25)∧0≤r∧r≤3∧0≤g∧g≤3:=by cases k<;>simp only [okT] at h<;>omega
   obtain ⟨hop,r1,r2,g1,g2⟩:=hop;have e6:(bif (bif (op==6) then true else (op==7)) then true else (op==25))=true:=by
    rcases hop with rfl|rfl|rfl<;>rfl
   rw [Ar (eqF h3),eqF (show op≠4 by omega),eqF (show op≠5 by omega),Ar (c:=false) rfl,Ar (c:=false) rfl,Bp e6,hL,neF rfl,Ar (c:=false) rfl,dF (A0q g1 r1 (Int.le_refl 0)),Ar (c:=false) rfl,dF (show ¬(0:Int)>0 by omega),Ar (c:=false) rfl,dF (A0p g2 r2),Ar (c:=false) rfl];exact fin _ A67 (by omega)
 | bin op a b iha ihb =>
  intro k F h hF;simp only [T.size] at hF;have:=a.size_pos;have:=b.size_pos;obtain ⟨F,rfl⟩:∃G,F=G+4:=⟨F-4,by omega⟩;show Ek (F+3) (D8 (F+3)) ⟨op,0,0,0,[a.node,b.node]⟩=_;have hL:(([a.node,b.node]:List sift_Node).length:Int)=2:=rfl;have fin:∀(q:Bool) (L:Nat→Int→Option Bool),StL (D8 (F+3)) ⟨op,0,0,0,[a.node,b.node]⟩ q L→okT q a→okT q b→(26≤op→b.op<26)→L (F+3) 0=some true:=fun q L hLL ha hb ho=>by
   have h1:=hLL.go (F+2) 0 a.node rfl (by simp) ha.kind.1 ha.kind.2 (iha q (F+3) ha (by omega));have h2:=hLL.go (F+1) 1 b.node rfl (by simp) hb.kind.1 hb.kind.2 (ihb q (F+3) hb (by omega));have h3:L (F+1) ((1:Nat)+1:Int)=some true:=by
    by_cases hc:op<26
    ·exact hLL.fin F _ (by simp) hc
    ·exact hLL.fin2 F _ b.node (by simp) (by show 26≤op;omega) rfl (by rw [A33];exact ho (by omega))
   exact h1.trans (h2.trans h3)
  unfold Ek;dsimp only;have h3:op≠3:=by cases k<;>simp only [okT] at h<;>omega
  rw [Ar (eqF h3)]
  by_cases h4:op=4∨op=5
  ·have hab:okT true a∧okT true b:=by
    cases k<;>simp only [okT] at h
    ·omega
    ·rcases h with h|h
     ·exact h.2
     ·omega
   have e4:(bif (op==4) then true else (op==5))=true:=by rcases h4 with rfl|rfl<;>rfl
   rw [Bp e4,hL,neF rfl,Ar (c:=false) rfl,dF (A0q (Int.le_refl 0) (Int.le_refl 0) (Int.le_refl 0)),Ar (c:=false) rfl,dF (show ¬(0:Int)>0 by omega),Ar (c:=false) rfl,dF (A0p (Int.le_refl 0) (Int.le_refl 0)),Ar (c:=false) rfl];exact fin true _ A66 hab.1 hab.2 (by omega)
  ·have hab:okT false a∧okT false b∧(26≤op→b.op<26)∧(8≤op∧op≤13∨op=26∨op=27):=by
    cases k<;>simp only [okT] at h
    ·exact ⟨h.2.1,h.2.2.1,fun _=>h.2.2.2,by omega⟩
    ·rcases h with h|h
     ·omega
     ·exact ⟨h.2.2.1,h.2.2.2,by omega,by omega⟩
   obtain ⟨ha,hb,ho,hop⟩:=hab;have e8:(bif (bif (bif decide (op≥8) then decide (op≤13) else false) then true else (op==26)) then true else (op==27))=true:=by
    rcases hop with ⟨h1,h2⟩|rfl|rfl
    ·rw [dT h1,dT h2];rfl
    ·rfl
    ·rfl
   rw [eqF (show op≠4 by omega),eqF (show op≠5 by omega),Ar (c:=false) rfl,Ar (c:=false) rfl,eqF (show op≠6 by omega),eqF (show op≠7 by omega),eqF (show op≠25 by omega),Ar (c:=false) rfl,Ar (c:=false) rfl,Ar (c:=false) rfl,Bp e8,hL,neF rfl,Ar (c:=false) rfl,dF (A0q (Int.le_refl 0) (Int.le_refl 0) (Int.le_refl 0)),Ar (c:=false) rfl,dF (show ¬(0:Int)>0 by omega),Ar (c:=false) rfl,dF (A0p (Int.le_refl 0) (Int.le_refl 0)),Ar (c:=false) rfl];exact fin false _ A68 ha hb ho
end Go.Proofs.YtkjnafecmjakcaaGreatDoor
namespace Go.Proofs.YtkjnafecmjakcaaGreatDoor
open Go Go.RowKit Go.Eng
set_option maxRecDepth 10000
set_option linter.unusedVariables false
set_option linter.unusedSimpArgs false
def tb (l:List UInt8):ByteArray:=⟨l.toArray⟩
theorem A57 (a b:List UInt8):tb a++tb b=tb (a++b):=by
 apply ByteArray.ext;show (tb a++tb b).data=_;rw [ByteArray.data_append];simp [tb]
theorem Zz (a:List UInt8):(tb a).size=a.length:=by simp [tb,ByteArray.size]
theorem A29 {a b:List UInt8} (h:tb a=tb b):a=b:=by
 have:=congrArg (fun x:ByteArray=>x.data.toList) h
 simpa [tb] using this
theorem Tc {β:Type} {a b:List UInt8} {f:ByteArray→Option β} (h:a.length+b.length≤9000000000):(Nc (tb a) (tb b)).bind f=f (tb (a++b)):=by
 unfold Nc;rw [if_pos (by rw [Zz,Zz];omega),sbd,A57]
def wd (op:Int):List UInt8:=((Bx.1[op.toNat]?).getD ⟨#[]⟩).data.toList
theorem wdb {β:Type} {op:Int} {f:ByteArray→Option β} (h:0≤op∧op≤27):(X0 Bx op).bind f=f (tb (wd op)):=by
 unfold X0;have hl:op.toNat<Bx.1.length:=by rw [Bx.2];omega
 rw [Mm op.toNat (Bx.1[op.toNat]) (by omega) (List.getElem?_eq_getElem hl)];unfold wd;rw [List.getElem?_eq_getElem hl]
 congr 1
def textT:T→List UInt8
 | .leaf op v=>if op=14 then Lib.itoa v else wd op
 | .un op r g a=>if op=3 then wd 3++(32::textT a) else wd op++(32::(Lib.itoa r++(32::(Lib.itoa g++(32::textT a)))))
 | .bin op a b=>if op<14 then 40::(textT a++(32::(wd op++(32::(textT b++[41]))))) else textT a++(32::(wd op++(32::textT b)))
theorem Uk (op:Int):(wd op).length≤6:=by
 have key:∀i:Fin 28,((Bx.1[i.val]?).getD ⟨#[]⟩).data.toList.length≤6:=by decide
 unfold wd
 by_cases h:op.toNat<28
 ·exact key ⟨op.toNat,h⟩
 ·rw [List.getElem?_eq_none (by rw [Bx.2];omega)];simp
theorem A42:∀(k u:Nat),u<10 ^ (k+1)→Lib.nDigits u≤k+1
 | 0,u,h=>by rw [Lib.nDigits_small (by simpa using h)];omega
 | k+1,u,h=>by
  by_cases hu:u<10
  ·rw [Lib.nDigits_small hu];omega
  ·rw [Lib.nDigits_big hu];have:=A42 k (u/10) (by rw [Nat.pow_succ] at h;omega);omega
theorem Rc {v:Int} (h:0≤v∧v≤1000000000):(Lib.itoa v).length≤10:=by
 obtain ⟨u,rfl⟩:∃u:Nat,v=u:=⟨v.toNat,by omega⟩;rw [Lib.itoa_nonneg,Lib.decDigits_length];exact A42 9 u (by omega)
theorem Vr:∀(t:T) (k:Bool),okT k t→(textT t).length≤40*t.size:=by
 intro t
 induction t with
 | leaf op v =>
  intro k h;simp only [textT,T.size]
  split
  ·have:=Rc (v:=v) (by cases k<;>simp only [okT] at h<;>omega);omega
  ·have:=Uk op;omega
 | un op r g a ih =>
  intro k h;have ha:okT true a:=by cases k<;>simp only [okT] at h<;>exact h.2
  have h1:=ih true ha;have hr:0≤r∧r≤1000000000:=by cases k<;>simp only [okT] at h<;>omega
  have hg:0≤g∧g≤1000000000:=by cases k<;>simp only [okT] at h<;>omega
  have:=Rc hr;have:=Rc hg;have:=Uk op;have:=Uk 3;simp only [textT,T.size]
  split<;>simp only [List.length_append,List.length_cons]<;>omega
 | bin op a b iha ihb =>
  intro k h;have hab:(∃q,okT q a)∧∃q,okT q b:=by
   cases k<;>simp only [okT] at h
   ·exact ⟨⟨_,h.2.1⟩,⟨_,h.2.2.1⟩⟩
   ·rcases h with h|h
    ·exact ⟨⟨_,h.2.1⟩,⟨_,h.2.2⟩⟩
    ·exact ⟨⟨_,h.2.2.1⟩,⟨_,h.2.2.2⟩⟩
  obtain ⟨⟨q,ha⟩,q',hb⟩:=hab;have:=iha q ha;have:=ihb q' hb;have:=Uk op;simp only [textT,T.size]
  split<;>simp only [List.length_append,List.length_cons,List.length_nil]<;>omega
theorem A1p {β:Type} {F:Nat} {v:Int} {f:ByteArray→Option β} (h:0≤v∧v≤1000000000):(strconv_Itoa F v).bind f=f (tb (Lib.itoa v)):=by
 unfold strconv_Itoa;rw [if_pos (by omega),sbd];rfl
theorem Z8 (F:Nat) (p:sift_Node):Cl (F+1) p=Fs F (Cl F) p:=rfl
theorem A27:(⟨#[32]⟩:ByteArray)=tb [32]:=rfl
theorem Sb:∀(t:T) (k:Bool) (F:Nat),okT k t→t.size+2≤F→t.size≤1000000→Cl F t.node=some (tb (textT t)):=by
 intro t
 induction t with
 | leaf op v =>
  intro k F h hF _;obtain ⟨F,rfl⟩:∃G,F=G+1:=⟨F-1,by simp only [T.size] at hF;omega⟩;have h0:0≤op∧op≤27:=by cases k<;>simp only [okT] at h<;>omega
  rw [Z8];show Fs F _ ⟨op,v,0,0,[]⟩=_;unfold Fs;dsimp only;rw [wdb h0]
  by_cases h14:op=14
  ·rw [Bp (eqT h14),A1p (by cases k<;>simp only [okT] at h<;>omega)]
   simp only [textT,if_pos h14]
  ·rw [Ar (eqF h14),Ar (eqF (show op≠3 by cases k<;>simp only [okT] at h<;>omega)),Ar (eqF (show (([]:List sift_Node).length:Int)≠1 by simp)),Bp (eqT (show (([]:List sift_Node).length:Int)=0 by simp))]
   simp only [textT,if_neg h14]
 | un op r g a ih =>
  intro k F h hF hs;simp only [T.size] at hF hs;obtain ⟨F,rfl⟩:∃G,F=G+1:=⟨F-1,by omega⟩;have h0:0≤op∧op≤27∧op≠14:=by cases k<;>simp only [okT] at h<;>omega
  have ha:okT true a:=by cases k<;>simp only [okT] at h<;>exact h.2
  have hr:0≤r∧r≤1000000000:=by cases k<;>simp only [okT] at h<;>omega
  have hg:0≤g∧g≤1000000000:=by cases k<;>simp only [okT] at h<;>omega
  have hi:=ih true F ha (by omega) (by omega);have hl:=Vr a true ha;have l1:=Rc hr;have l2:=Rc hg;have l3:=Uk op;rw [Z8];show Fs F _ ⟨op,0,r,g,[a.node]⟩=_;unfold Fs;dsimp only;rw [wdb ⟨h0.1,h0.2.1⟩,Ar (eqF h0.2.2)]
  by_cases h3:op=3
  ·subst h3;rw [Bp (eqT rfl),A27,Tc (by simp;omega),Vu,hi,sbd,Tc (by simp;omega)];simp only [textT,if_pos,List.append_assoc,List.singleton_append]
  ·rw [Ar (eqF h3),Bp (eqT (show (([a.node]:List sift_Node).length:Int)=1 by simp)),A27,Tc (by simp;omega),A1p hr,Tc (by simp;omega),Tc (by simp;omega),A1p hg,Tc (by simp;omega),Tc (by simp;omega),Vu,hi,sbd,Tc (by simp;omega)];simp only [textT,if_neg h3,List.append_assoc,List.singleton_append,List.cons_append,List.nil_append]
 | bin op a b iha ihb =>
  intro k F h hF hs;simp only [T.size] at hF hs;obtain ⟨F,rfl⟩:∃G,F=G+1:=⟨F-1,by omega⟩;have h0:0≤op∧op≤27∧op≠14∧op≠3:=by cases k<;>simp only [okT] at h<;>omega
  have hab:(∃q,okT q a)∧∃q,okT q b:=by
   cases k<;>simp only [okT] at h
   ·exact ⟨⟨_,h.2.1⟩,⟨_,h.2.2.1⟩⟩
   ·rcases h with h|h
    ·exact ⟨⟨_,h.2.1⟩,⟨_,h.2.2⟩⟩
    ·exact ⟨⟨_,h.2.2.1⟩,⟨_,h.2.2.2⟩⟩
  obtain ⟨⟨q,ha⟩,q',hb⟩:=hab;have hia:=iha q F ha (by omega) (by omega);have hib:=ihb q' F hb (by omega) (by omega);have hl:=Vr a q ha;have hl2:=Vr b q' hb;have l3:=Uk op;rw [Z8];show Fs F _ ⟨op,0,0,0,[a.node,b.node]⟩=_;unfold Fs;dsimp only;rw [wdb ⟨h0.1,h0.2.1⟩,Ar (eqF h0.2.2.1),Ar (eqF h0.2.2.2),Ar (eqF (show (([a.node,b.node]:List sift_Node).length:Int)≠1 by simp)),Ar (eqF (show (([a.node,b.node]:List sift_Node).length:Int)≠0 by simp)),
   Vu,hia,sbd,A27,Tc (by simp;omega),Tc (by simp;omega),Tc (by simp;omega),A2t,hib,sbd,Tc (by simp;omega)]
  by_cases h14:op<14
  ·rw [Bp (dT h14),show (⟨#[40]⟩:ByteArray)=tb [40] from rfl,show (⟨#[41]⟩:ByteArray)=tb [41] from rfl,Tc (by simp;omega),Tc (by simp;omega)];simp only [textT,if_pos h14,List.append_assoc,List.singleton_append,List.cons_append,List.nil_append]
  ·rw [Ar (dF h14)];simp only [textT,if_neg h14,List.append_assoc,List.singleton_append,List.cons_append,List.nil_append]
end Go.Proofs.YtkjnafecmjakcaaGreatDoor
namespace Go.Proofs.YtkjnafecmjakcaaGreatDoor
open Go Go.RowKit Go.Eng
set_option maxRecDepth 10000
set_option linter.unusedVariables false
set_option linter.unusedSimpArgs false
def Q1 (c:UInt8):Bool:=decide (48≤c.toNat)&&decide (c.toNat≤57)
def V4 (u:List UInt8):Prop:=∀c r,u=c::r→Q1 c=false
def Ul (u:List UInt8):Prop:=V4 u∧∀c r,u=32::c::r→c≠43∧c≠45
theorem S9 (r:List UInt8):V4 (32::r):=fun c q h=>by cases h;rfl
theorem Ym:∀(n:Nat),∀c∈Lib.decDigits n,Q1 c=true:=by
 intro n
 induction n using Nat.strongRecOn with
 | _ n ih =>
  have one:∀i:Fin 10,Q1 (UInt8.ofNat (48+i.val))=true:=by decide
  intro c hc;rw [Lib.decDigits] at hc
  split at hc
  ·rename_i h
   rw [List.mem_singleton] at hc;subst hc;exact one ⟨n,h⟩
  ·rcases List.mem_append.1 hc with hc|hc
   ·exact ih (n/10) (by omega) c hc
   ·rw [List.mem_singleton] at hc;subst hc;exact one ⟨n%10,Nat.mod_lt _ (by omega)⟩
def A2d (l:List UInt8):Nat:=l.foldl (fun a c=>10*a+(c.toNat-48)) 0
theorem Zj (n:Nat):A2d (Lib.decDigits n)=n:=by
 induction n using Nat.strongRecOn with
 | _ n ih =>
  have one:∀i:Fin 10,(UInt8.ofNat (48+i.val)).toNat-48=i.val:=by decide
  rw [Lib.decDigits]
  split
  ·rename_i h
   show 10*0+((UInt8.ofNat (48+n)).toNat-48)=n;rw [one ⟨n,h⟩];show 10*0+n=n;omega
  ·have e:=ih (n/10) (by omega);unfold A2d at e ⊢;rw [List.foldl_append,e];show 10*(n/10)+((UInt8.ofNat (48+n%10)).toNat-48)=n;rw [one ⟨n%10,Nat.mod_lt _ (by omega)⟩];show 10*(n/10)+n%10=n;omega
theorem Zy {l x:List UInt8} (hl:∀c∈l,Q1 c=true) (hx:V4 x):(l++x).takeWhile Q1=l:=by
 induction l with
 | nil =>
  cases x with
  | nil=>rfl
  | cons c r=>simp [hx c r rfl]
 | cons c l ih=>simp [hl c (by simp),ih (fun d hd=>hl d (by simp [hd]))]
theorem Z1 {v v':Int} {x y:List UInt8} (h0:0≤v) (h1:0≤v') (hx:V4 x) (hy:V4 y) (h:Lib.itoa v++x=Lib.itoa v'++y):v=v'∧x=y:=by
 obtain ⟨a,rfl⟩:∃a:Nat,v=a:=⟨v.toNat,by omega⟩;obtain ⟨b,rfl⟩:∃b:Nat,v'=b:=⟨v'.toNat,by omega⟩;rw [Lib.itoa_nonneg,Lib.itoa_nonneg] at h;have e:=congrArg (List.takeWhile Q1) h;rw [Zy (Ym a) hx,Zy (Ym b) hy] at e;have e2:=congrArg A2d e;rw [Zj,Zj] at e2;subst e2;exact ⟨rfl,List.append_cancel_left h⟩
theorem A0l {v:Int} (h:0≤v):∃c r,Lib.itoa v=c::r∧Q1 c=true:=by
 obtain ⟨a,rfl⟩:∃a:Nat,v=a:=⟨v.toNat,by omega⟩;rw [Lib.itoa_nonneg]
 cases hd:Lib.decDigits a with
 | nil =>
  have:=Lib.decDigits_length a;rw [hd] at this;have:=Lib.nDigits_pos a;simp at *;omega
 | cons c r=>exact ⟨c,r,rfl,Ym a c (by rw [hd];simp)⟩
def Tj:List Int:=[1,2,3,6,7,15,16,17,18,19,20,21,22,23,24,25]
def U0:List Int:=[4,5,8,9,10,11,12,13]
theorem Ve:∀a∈Tj,∀b∈Tj,List.isPrefixOf (wd a) (wd b)=true→a=b:=by decide
theorem Vp:∀a∈U0,∀b∈U0,List.isPrefixOf (wd a++[32]) (wd b++[32])=true→a=b:=by decide
theorem A0h:∀a∈Tj,∃c r,wd a=c::r∧Q1 c=false∧c≠40:=by
 intro a ha;have key:∀a∈Tj,(match wd a with|[]=>false|c::_=>!Q1 c&&decide (c≠40))=true:=by decide
 have:=key a ha
 cases hw:wd a with
 | nil=>rw [hw] at this;cases this
 | cons c r =>
  rw [hw] at this;simp at this;exact ⟨c,r,rfl,this.1,this.2⟩
theorem A3t {a b:Int} {x y:List UInt8} (ha:a∈Tj) (hb:b∈Tj) (h:wd a++x=wd b++y):a=b∧x=y:=by
 have hp:wd a <+: wd b∨wd b <+: wd a:=List.prefix_or_prefix_of_prefix (l₃:=wd a++x) (List.prefix_append _ _) (h▸List.prefix_append _ _);have e:a=b:=by
  rcases hp with hp|hp
  ·exact Ve a ha b hb (List.isPrefixOf_iff_prefix.2 hp)
  ·exact (Ve b hb a ha (List.isPrefixOf_iff_prefix.2 hp)).symm
 subst e;exact ⟨rfl,List.append_cancel_left h⟩
theorem A3g {a b:Int} {x y:List UInt8} (ha:a∈U0) (hb:b∈U0) (h:wd a++(32::x)=wd b++(32::y)):a=b∧x=y:=by
 have h2:(wd a++[32])++x=(wd b++[32])++y:=by simpa using h
 have hp:(wd a++[32]) <+: (wd b++[32])∨(wd b++[32]) <+: (wd a++[32]):=List.prefix_or_prefix_of_prefix (l₃:=(wd a++[32])++x) (List.prefix_append _ _) (h2▸List.prefix_append _ _);have e:a=b:=by
  rcases hp with hp|hp
  ·exact Vp a ha b hb (List.isPrefixOf_iff_prefix.2 hp)
  ·exact (Vp b hb a ha (List.isPrefixOf_iff_prefix.2 hp)).symm
 subst e;exact ⟨rfl,List.append_cancel_left h2⟩
theorem Uu:∀a∈U0,∀r,Ul (32::(wd a++r)):=by
 intro a ha r;have key:∀a∈U0,(match wd a with|[]=>false|c::_=>decide (c≠43)&&decide (c≠45))=true:=by decide
 have:=key a ha;refine ⟨S9 _,fun c q h=>?_⟩
 cases hw:wd a with
 | nil=>rw [hw] at this;cases this
 | cons d s =>
  rw [hw] at this h;simp at this h;rw [←h.1];exact this
def T.hd:T→T
 | .bin op a b=>if op<14 then .bin op a b else a.hd
 | t=>t
def T.tl:T→List (Int×T)
 | .bin op a b=>if op<14 then [] else a.tl++[(op,b)]
 | _=>[]
def T.mk (h:T) (l:List (Int×T)):T:=l.foldl (fun a p=>.bin p.1 a p.2) h
theorem T.eta (t:T):T.mk t.hd t.tl=t:=by
 induction t with
 | leaf op v=>rfl
 | un op r g a ih=>rfl
 | bin op a b iha ihb =>
  unfold T.hd T.tl
  split
  ·rfl
  ·unfold T.mk at *;rw [List.foldl_append,iha];rfl
def P0 (l:List (Int×T)):List UInt8:=l.flatMap fun p=>32::(wd p.1++(32::textT p.2))
theorem Y8 (t:T):textT t=textT t.hd++P0 t.tl:=by
 induction t with
 | leaf op v=>simp [T.hd,T.tl,P0]
 | un op r g a ih=>simp [T.hd,T.tl,P0]
 | bin op a b iha ihb =>
  by_cases h:op<14
  ·simp only [T.hd,T.tl,if_pos h,P0,List.flatMap_nil,List.append_nil]
  ·simp only [T.hd,T.tl,if_neg h];rw [textT,if_neg h,iha];unfold P0;simp
def Itm (t:T):Prop:=t.op<26∧∃k,okT k t
theorem T.hd_size (t:T):t.hd.size≤t.size:=by
 induction t with
 | leaf op v=>exact Nat.le_refl _
 | un op r g a ih=>exact Nat.le_refl _
 | bin op a b iha ihb =>
  unfold T.hd
  split
  ·exact Nat.le_refl _
  ·simp only [T.size];omega
theorem A40:∀(t:T) (k:Bool),okT k t→Itm t.hd∧∀p∈t.tl,(p.1=26∨p.1=27)∧Itm p.2∧p.2.size<t.size:=by
 intro t
 induction t with
 | leaf op v=>intro k h;exact ⟨⟨by show op<26;cases k<;>simp only [okT] at h<;>omega,k,h⟩,fun p hp=>by simp [T.tl] at hp⟩
 | un op r g a ih=>intro k h;exact ⟨⟨by show op<26;cases k<;>simp only [okT] at h<;>omega,k,h⟩,fun p hp=>by simp [T.tl] at hp⟩
 | bin op a b iha ihb =>
  intro k h
  by_cases hop:op<14
  ·simp only [T.hd,T.tl,if_pos hop];exact ⟨⟨by show op<26;omega,k,h⟩,fun p hp=>by simp at hp⟩
  ·simp only [T.hd,T.tl,if_neg hop];have hk:(op=26∨op=27)∧okT false a∧okT false b∧b.op<26:=by
    cases k<;>simp only [okT] at h
    ·exact h
    ·omega
   obtain ⟨h1,h2,h3,h4⟩:=hk;obtain ⟨i1,i2⟩:=iha false h2;refine ⟨i1,fun p hp=>?_⟩;rcases List.mem_append.1 hp with hp|hp
   ·obtain ⟨j1,j2,j3⟩:=i2 p hp;exact ⟨j1,j2,by simp only [T.size];omega⟩
   ·simp at hp;subst hp;exact ⟨h1,⟨h4,_,h3⟩,by simp only [T.size];have:=a.size_pos;omega⟩
def PCi (n:Nat):Prop:=∀t t':T,t.size≤n→Itm t→Itm t'→∀u u',V4 u→V4 u'→textT t++u=textT t'++u'→t=t'∧u=u'
def PCa (n:Nat):Prop:=∀(t t':T) (k k':Bool),t.size≤n→okT k t→okT k' t'→∀u u',Ul u→Ul u'→textT t++u=textT t'++u'→t=t'∧u=u'
theorem Sa {l:List (Int×T)} {u:List UInt8} (h:V4 u):V4 (P0 l++u):=by
 cases l with
 | nil=>exact h
 | cons p l=>exact S9 _
theorem A3r:wd 26=[43]:=by decide
theorem A3s:wd 27=[45]:=by decide
theorem A3m {n:Nat} (hP:PCi n):∀(l l':List (Int×T)),(∀p∈l,(p.1=26∨p.1=27)∧Itm p.2∧p.2.size≤n)→(∀p∈l',(p.1=26∨p.1=27)∧Itm p.2)→∀u u',Ul u→Ul u'→P0 l++u=P0 l'++u'→l=l'∧u=u':=by
 have no:∀(p:Int×T) (l:List (Int×T)) (u u':List UInt8),(p.1=26∨p.1=27)→Ul u→P0 (p::l)++u'=u→False:=by
  intro p l u u' hp hu h;have e:∃c r,u=32::c::r∧(c=43∨c=45):=by
   rw [←h];simp only [P0,List.flatMap_cons,List.cons_append,List.append_assoc];rcases hp with hp|hp
   ·rw [hp,A3r];exact ⟨43,_,rfl,.inl rfl⟩
   ·rw [hp,A3s];exact ⟨45,_,rfl,.inr rfl⟩
  obtain ⟨c,r,e1,e2⟩:=e;have:=hu.2 c r e1;rcases e2 with rfl|rfl
  ·exact this.1 rfl
  ·exact this.2 rfl
 intro l
 induction l with
 | nil =>
  intro l' _ h2 u u' hu hu' h
  cases l' with
  | nil=>exact ⟨rfl,h⟩
  | cons p l'=>exact (no p l' u u' (h2 p (by simp)).1 hu h.symm).elim
 | cons p l ih =>
  intro l' h1 h2 u u' hu hu' h
  cases l' with
  | nil=>exact (no p l u' u (h1 p (by simp)).1 hu' h).elim
  | cons p' l' =>
   obtain ⟨o1,i1,s1⟩:=h1 p (by simp);obtain ⟨o2,i2⟩:=h2 p' (by simp);simp only [P0,List.flatMap_cons,List.cons_append,List.append_assoc] at h;have h:=(List.cons.inj h).2;have e:p.1=p'.1∧textT p.2++(P0 l++u)=textT p'.2++(P0 l'++u'):=by
    rcases o1 with o1|o1<;>rcases o2 with o2|o2<;>rw [o1,o2] at h ⊢
    ·exact ⟨rfl,by simpa [A3r,P0] using h⟩
    ·rw [A3r,A3s] at h;simp at h
    ·rw [A3r,A3s] at h;simp at h
    ·exact ⟨rfl,by simpa [A3s,P0] using h⟩
   obtain ⟨e1,e2⟩:=hP p.2 p'.2 s1 i1 i2 _ _ (Sa hu.1) (Sa hu'.1) e.2;obtain ⟨e3,e4⟩:=ih l' (fun q hq=>h1 q (by simp [hq])) (fun q hq=>h2 q (by simp [hq])) u u' hu hu' e2;refine ⟨?_,e4⟩;rw [e3,show p=p' from Prod.ext e.1 e1]
theorem PCi.all {n:Nat} (h:PCi n):PCa n:=by
 intro t t' k k' hs h1 h2 u u' hu hu' he;obtain ⟨a1,a2⟩:=A40 t k h1;obtain ⟨b1,b2⟩:=A40 t' k' h2;rw [Y8 t,Y8 t',List.append_assoc,List.append_assoc] at he;obtain ⟨e1,e2⟩:=h t.hd t'.hd (Nat.le_trans t.hd_size hs) a1 b1 _ _ (Sa hu.1) (Sa hu'.1) he;obtain ⟨e3,e4⟩:=A3m h t.tl t'.tl (fun p hp=>⟨(a2 p hp).1,(a2 p hp).2.1,by have:=(a2 p hp).2.2;omega⟩) (fun p hp=>⟨(b2 p hp).1,(b2 p hp).2.1⟩) u u' hu hu' e2;refine ⟨?_,e4⟩;rw [←t.eta,←t'.eta,e1,e3]
theorem A03 {c:UInt8} {x y:List UInt8} (h:c::x=c::y):x=y:=(List.cons.inj h).2
theorem Ud {op:Int} (h:op=1∨op=2∨op=3∨op=6∨op=7∨(15≤op∧op≤25)):op∈Tj:=by
 have:op=1∨op=2∨op=3∨op=6∨op=7∨op=15∨op=16∨op=17∨op=18∨op=19∨op=20∨op=21∨op=22∨op=23∨op=24∨op=25:=by omega
 simp [Tj];omega
theorem Wm {op:Int} (h:op=4∨op=5∨(8≤op∧op≤13)):op∈U0:=by simp [U0];omega
inductive Beg where
 | num (v:Int)
 | word (op:Int) (r:List UInt8)
 | open_ (r:List UInt8)
def Beg.tx:Beg→List UInt8
 | .num v=>Lib.itoa v
 | .word op r=>wd op++r
 | .open_ r=>40::r
def Beg.ok:Beg→Prop
 | .num v=>0≤v
 | .word op _=>op∈Tj
 | .open_ _=>True
theorem A4c {a b:Beg} {u u':List UInt8} (ha:a.ok) (hb:b.ok) (hu:V4 u) (hu':V4 u') (h:a.tx++u=b.tx++u') :
  (∃v,a=.num v∧b=.num v∧u=u')∨(∃op r r',a=.word op r∧b=.word op r'∧r++u=r'++u')∨∃r r',a=.open_ r∧b=.open_ r'∧r++u=r'++u':=by
 have first:∀(x:Beg),x.ok→∀w,∃c q,x.tx++w=c::q∧(match x with|.num _=>Q1 c=true|.word _ _=>Q1 c=false∧c≠40|.open_ _=>c=40):=by
  intro x hx w
  cases x with
  | num v =>
   obtain ⟨c,r,e,hd⟩:=A0l hx;exact ⟨c,r++w,by show Lib.itoa v++w=_;rw [e];rfl,hd⟩
  | word op r =>
   obtain ⟨c,s,e,h1,h2⟩:=A0h op hx;exact ⟨c,s++r++w,by show wd op++r++w=_;rw [e];rfl,h1,h2⟩
  | open_ r=>exact ⟨40,r++w,rfl,rfl⟩
 obtain ⟨c,q,e1,k1⟩:=first a ha u
 obtain ⟨c',q',e2,k2⟩:=first b hb u'
 have hc:c=c':=by rw [e1,e2] at h;exact (List.cons.inj h).1
 subst hc;have d40:Q1 40=false:=by decide
 cases a with
 | num v =>
  cases b with
  | num v' =>
   obtain ⟨rfl,e⟩:=Z1 ha hb hu hu' h;exact .inl ⟨v,rfl,rfl,e⟩
  | word op r =>
   have k1:Q1 c=true:=k1;have k2:Q1 c=false∧c≠40:=k2;rw [k1] at k2;cases k2.1
  | open_ r =>
   have k1:Q1 c=true:=k1;have k2:c=40:=k2;subst k2;rw [d40] at k1;cases k1
 | word op r =>
  cases b with
  | num v' =>
   have k1:Q1 c=false∧c≠40:=k1;have k2:Q1 c=true:=k2;rw [k2] at k1;cases k1.1
  | word op' r' =>
   have h:wd op++r++u=wd op'++r'++u':=h;rw [List.append_assoc,List.append_assoc] at h;obtain ⟨rfl,e⟩:=A3t ha hb h;exact .inr (.inl ⟨op,r,r',rfl,rfl,e⟩)
  | open_ r' =>
   have k1:Q1 c=false∧c≠40:=k1;have k2:c=40:=k2;exact (k1.2 k2).elim
 | open_ r =>
  have k1:c=40:=k1
  cases b with
  | num v' =>
   have k2:Q1 c=true:=k2;subst k1;rw [d40] at k2;cases k2
  | word op' r' =>
   have k2:Q1 c=false∧c≠40:=k2;exact (k2.2 k1).elim
  | open_ r'=>exact .inr (.inr ⟨r,r',rfl,rfl,(List.cons.inj h).2⟩)
def T.beg:T→Beg
 | .leaf op v=>if op=14 then .num v else .word op []
 | .un op r g a=>if op=3 then .word 3 (32::textT a) else .word op (32::(Lib.itoa r++(32::(Lib.itoa g++(32::textT a)))))
 | .bin op a b=>.open_ (textT a++(32::(wd op++(32::(textT b++[41])))))
theorem A18 {t:T} (h:Itm t):t.beg.ok∧textT t=t.beg.tx:=by
 obtain ⟨h1,k,h2⟩:=h
 cases t with
 | leaf op v =>
  have h1:op<26:=h1
  by_cases q:op=14
  ·simp only [T.beg,textT,if_pos q];exact ⟨by show 0≤v;cases k<;>simp only [okT] at h2<;>omega,rfl⟩
  ·simp only [T.beg,textT,if_neg q];exact ⟨Ud (by cases k<;>simp only [okT] at h2<;>omega),(List.append_nil _).symm⟩
 | un op r g a =>
  have h1:op<26:=h1
  by_cases q:op=3
  ·simp only [T.beg,textT,if_pos q];exact ⟨Ud (by omega),rfl⟩
  ·simp only [T.beg,textT,if_neg q];exact ⟨Ud (by cases k<;>simp only [okT] at h2<;>omega),rfl⟩
 | bin op a b =>
  have h3:op<14:=by
   have h1:op<26:=h1
   cases k<;>simp only [okT] at h2<;>omega
  simp only [T.beg,textT,if_pos h3];exact ⟨trivial,rfl⟩
theorem A05 (op v:Int):(op=14∧(T.leaf op v).beg=.num v)∨(op≠14∧(T.leaf op v).beg=.word op []):=by
 by_cases q:op=14
 ·exact .inl ⟨q,by simp only [T.beg,if_pos q]⟩
 ·exact .inr ⟨q,by simp only [T.beg,if_neg q]⟩
theorem A06 (op r g:Int) (a:T):(op=3∧(T.un op r g a).beg=.word 3 (32::textT a))∨(op≠3∧(T.un op r g a).beg=.word op (32::(Lib.itoa r++(32::(Lib.itoa g++(32::textT a)))))):=by
 by_cases q:op=3
 ·exact .inl ⟨q,by simp only [T.beg,if_pos q]⟩
 ·exact .inr ⟨q,by simp only [T.beg,if_neg q]⟩
theorem A2h (op:Int) (a b:T):(T.bin op a b).beg=.open_ (textT a++(32::(wd op++(32::(textT b++[41]))))):=rfl
theorem okL {k:Bool} {op v:Int} (h:okT k (.leaf op v)):0≤v∧(op≠14→v=0)∧op≠3∧(op<7∨op=14∨(15≤op∧op≤25)):=by cases k<;>simp only [okT] at h<;>omega
theorem okU {k:Bool} {op r g:Int} {x:T} (h:okT k (.un op r g x)):okT true x∧0≤r∧0≤g∧(op=3→r=0∧g=0):=by
 cases k<;>simp only [okT] at h
 ·exact ⟨h.2,by omega,by omega,by omega⟩
 ·exact ⟨h.2,by omega,by omega,by omega⟩
theorem A35 {k k':Bool} {op v r g:Int} {x:T} (h:okT k (.leaf op v)) (h':okT k' (.un op r g x)):False:=by cases k<;>cases k'<;>simp only [okT] at h h'<;>omega
theorem okB {k:Bool} {op:Int} {a b:T} (h:okT k (.bin op a b)) (h2:op<26):(∃q,okT q a)∧(∃q,okT q b)∧op∈U0:=by
 cases k<;>simp only [okT] at h
 ·omega
 ·rcases h with h|h
  ·exact ⟨⟨_,h.2.1⟩,⟨_,h.2.2⟩,Wm (by omega)⟩
  ·exact ⟨⟨_,h.2.2.1⟩,⟨_,h.2.2.2⟩,Wm (by omega)⟩
theorem Tl {x:T} (h:okT true x):Itm x:=⟨by cases x<;>simp only [okT] at h<;>simp only [T.op]<;>omega,_,h⟩
theorem A36:∀n,PCi n:=by
 intro n
 induction n with
 | zero=>intro t t' hs;have:=t.size_pos;omega
 | succ n ih =>
  have hA:=ih.all;intro t t' hs h1 h2 u u' hu hu' he;obtain ⟨a1,a2⟩:=A18 h1;obtain ⟨b1,b2⟩:=A18 h2;rw [a2,b2] at he;obtain ⟨h3,k,h4⟩:=h1;obtain ⟨h5,k',h6⟩:=h2;have paren:∀r,Ul (41::r):=fun r=>⟨fun c q h=>by cases h;rfl,fun c q h=>by cases h⟩
  have he:=A4c a1 b1 hu hu' he
  cases t with
  | leaf op1 w =>
   obtain ⟨o1,o2,-,-⟩:=okL h4
   cases t' with
   | leaf op2 w' =>
    obtain ⟨o3,o4,-,-⟩:=okL h6;rcases A05 op1 w with ⟨q1,q2⟩|⟨q1,q2⟩<;>rcases A05 op2 w' with ⟨q3,q4⟩|⟨q3,q4⟩<;>rw [q2,q4] at he <;>
     rcases he with ⟨v,e1,e2,e3⟩|⟨op,r,r',e1,e2,e3⟩|⟨r,r',e1,e2,e3⟩<;>cases e1<;>cases e2
    ·exact ⟨by rw [q1,q3],e3⟩
    ·exact ⟨by rw [o2 q1,o4 q1],e3⟩
   | un op2 r2 g2 y =>
    exfalso;rcases A05 op1 w with ⟨q1,q2⟩|⟨q1,q2⟩<;>rcases A06 op2 r2 g2 y with ⟨q3,q4⟩|⟨q3,q4⟩<;>rw [q2,q4] at he <;>
     rcases he with ⟨v,e1,e2,e3⟩|⟨op,r,r',e1,e2,e3⟩|⟨r,r',e1,e2,e3⟩<;>cases e1<;>cases e2
    ·subst q3;exact A35 h4 h6
    ·exact A35 h4 h6
   | bin op2 a' b' =>
    exfalso;rcases A05 op1 w with ⟨q1,q2⟩|⟨q1,q2⟩<;>rw [q2,A2h] at he <;>
     rcases he with ⟨v,e1,e2,e3⟩|⟨op,r,r',e1,e2,e3⟩|⟨r,r',e1,e2,e3⟩<;>cases e1<;>cases e2
  | un op1 r1 g1 x =>
   obtain ⟨hx,z1,z2,z3⟩:=okU h4;simp only [T.size] at hs
   cases t' with
   | leaf op2 w' =>
    exfalso;rcases A06 op1 r1 g1 x with ⟨q1,q2⟩|⟨q1,q2⟩<;>rcases A05 op2 w' with ⟨q3,q4⟩|⟨q3,q4⟩<;>rw [q2,q4] at he <;>
     rcases he with ⟨v,e1,e2,e3⟩|⟨op,r,r',e1,e2,e3⟩|⟨r,r',e1,e2,e3⟩<;>cases e1<;>cases e2
    ·subst q1;exact A35 h6 h4
    ·exact A35 h6 h4
   | un op2 r2 g2 y =>
    obtain ⟨hy,y1,y2,y3⟩:=okU h6;rcases A06 op1 r1 g1 x with ⟨q1,q2⟩|⟨q1,q2⟩<;>rcases A06 op2 r2 g2 y with ⟨q3,q4⟩|⟨q3,q4⟩<;>rw [q2,q4] at he <;>
     rcases he with ⟨v,e1,e2,e3⟩|⟨op,r,r',e1,e2,e3⟩|⟨r,r',e1,e2,e3⟩<;>cases e1<;>cases e2
    ·obtain ⟨e4,e5⟩:=ih x y (by omega) (Tl hx) (Tl hy) u u' hu hu' (A03 e3);exact ⟨by rw [q1,q3,(z3 q1).1,(z3 q1).2,(y3 q3).1,(y3 q3).2,e4],e5⟩
    ·exact (q3 rfl).elim
    ·exact (q1 rfl).elim
    ·have e4:=A03 e3;have e4:Lib.itoa r1++(32::(Lib.itoa g1++(32::(textT x++u))))=Lib.itoa r2++(32::(Lib.itoa g2++(32::(textT y++u')))):=by simpa using e4
     obtain ⟨f1,f2⟩:=Z1 z1 y1 (S9 _) (S9 _) e4;obtain ⟨f3,f4⟩:=Z1 z2 y2 (S9 _) (S9 _) (A03 f2);obtain ⟨f5,f6⟩:=ih x y (by omega) (Tl hx) (Tl hy) u u' hu hu' (A03 f4);exact ⟨by rw [f1,f3,f5],f6⟩
   | bin op2 a' b' =>
    exfalso;rcases A06 op1 r1 g1 x with ⟨q1,q2⟩|⟨q1,q2⟩<;>rw [q2,A2h] at he <;>
     rcases he with ⟨v,e1,e2,e3⟩|⟨op,r,r',e1,e2,e3⟩|⟨r,r',e1,e2,e3⟩<;>cases e1<;>cases e2
  | bin op1 a b =>
   have h3:op1<26:=h3;obtain ⟨⟨q1,oa⟩,⟨q2,ob⟩,os⟩:=okB h4 h3;simp only [T.size] at hs;rw [A2h] at he
   cases t' with
   | leaf op2 w' =>
    exfalso;rcases A05 op2 w' with ⟨q3,q4⟩|⟨q3,q4⟩<;>rw [q4] at he <;>
     rcases he with ⟨v,e1,e2,e3⟩|⟨op,r,r',e1,e2,e3⟩|⟨r,r',e1,e2,e3⟩<;>cases e1<;>cases e2
   | un op2 r2 g2 y =>
    exfalso;rcases A06 op2 r2 g2 y with ⟨q3,q4⟩|⟨q3,q4⟩<;>rw [q4] at he <;>
     rcases he with ⟨v,e1,e2,e3⟩|⟨op,r,r',e1,e2,e3⟩|⟨r,r',e1,e2,e3⟩<;>cases e1<;>cases e2
   | bin op2 a' b' =>
    have h5:op2<26:=h5;obtain ⟨⟨q3,oa'⟩,⟨q4,ob'⟩,os'⟩:=okB h6 h5;rw [A2h] at he;rcases he with ⟨v,e1,e2,e3⟩|⟨op,r,r',e1,e2,e3⟩|⟨r,r',e1,e2,e3⟩<;>cases e1<;>cases e2
    simp only [List.append_assoc,List.cons_append,List.nil_append] at e3;obtain ⟨f1,f2⟩:=hA a a' q1 q3 (by omega) oa oa' _ _ (Uu op1 os _) (Uu op2 os' _) e3;obtain ⟨f3,f4⟩:=A3g os os' (A03 f2);obtain ⟨f5,f6⟩:=hA b b' q2 q4 (by omega) ob ob' _ _ (paren _) (paren _) f4;exact ⟨by rw [f1,f3,f5],A03 f6⟩
theorem Y9 {t t':T} {k k':Bool} (h:okT k t) (h':okT k' t') (e:textT t=textT t'):t=t' :=
 have sn:Ul []:=⟨(fun _ _ h=>by simp at h),(fun _ _ h=>by simp at h)⟩
 ((A36 t.size).all t t' k k' (Nat.le_refl _) h h' [] [] sn sn (by rw [e])).1
end Go.Proofs.YtkjnafecmjakcaaGreatDoor
namespace Go.Proofs.YtkjnafecmjakcaaGreatDoor
open Go Go.RowKit Go.Eng
set_option maxRecDepth 10000
set_option linter.unusedVariables false
set_option linter.unusedSimpArgs false
def tab {α:Type} (n:Nat) (f:Int→α):List α:=(List.range n).map fun i:Nat=>f (i:Int)
theorem A3l {α:Type} (n:Nat) (f:Int→α):(tab n f).length=n:=by simp [tab]
theorem Zx {α:Type} {n i:Nat} {f:Int→α} (h:i<n):(tab n f)[i]? = some (f i):=by simp [tab,h]
theorem R7 {α β:Type} {n:Nat} {f:Int→α} {g:α→Option β} {i:Int} (h:0≤i∧i<n):(B0 (tab n f) i).bind g=g (f i):=by
 obtain ⟨j,rfl⟩:∃j:Nat,i=j:=⟨i.toNat,by omega⟩;exact Mm j _ rfl (Zx (by omega))
theorem A2o {α:Type} {L:Nat→Int→Int→List α→Option (List α)} {f:Int→Option α} {g:Int→α} {N:Nat}
  (hL:∀n x i l,L (n+1) x i l=bif decide (i<x) then ((f i).bind fun y=>(B0 l i).bind fun _=>(Lh l i y).bind fun l'=>(ck (i+1)).bind fun i'=>L n x i' l') else some l)
  (hf:∀i:Int,0≤i→i<N→f i=some (g i)) (hN:N≤1000000) :
  ∀(F j:Nat) (l:List α),l.length=N→N+1≤F+j→j≤N→(∀i:Nat,i<j→l[i]? = some (g i))→L F N j l=some (tab N g):=by
 intro F
 induction F with
 | zero=>intro j l _ h1 h2;omega
 | succ F ih =>
  intro j l hl h1 h2 h3;rw [hL]
  by_cases hj:j<N
  ·rw [Bp (dT (by omega)),hf j (by omega) (by omega),sbd,Mm j _ rfl (List.getElem?_eq_getElem (by omega)),show Lh l (j:Int) (g j)=some (l.set j (g j)) by unfold Lh;rw [if_pos (by omega),Int.toNat_natCast],sbd,ckb (by omega)];refine ih (j+1) _ (by simp [hl]) (by omega) (by omega) fun i hi=>?_
   by_cases e:i=j
   ·subst e;rw [List.getElem?_set_self (by omega)]
   ·rw [List.getElem?_set_ne (by omega)];exact h3 i (by omega)
  ·rw [Ar (dF (by omega))]
   congr 1
   apply List.ext_getElem?;intro i
   by_cases hi:i<N
   ·rw [h3 i (by omega),Zx hi]
   ·rw [List.getElem?_eq_none (by omega),List.getElem?_eq_none (by rw [A3l];omega)]
theorem P2 {α:Type} {L:Nat→Int→Int→List α→Option (List α)} {f:Int→Option α} {g:Int→α} {N F B:Nat} {p:Int} {z:α}
  (hL:∀n x i l,L (n+1) x i l=bif decide (i<x) then ((f i).bind fun y=>(B0 l i).bind fun _=>(Lh l i y).bind fun l'=>(ck (i+1)).bind fun i'=>L n x i' l') else some l)
  (hf:∀i:Int,0≤i→i<N→f i=some (g i)) (hN:N≤1000000) (hF:N+1≤F) (hp:p=N) (hB:B≤1000) :
  ((mkI B p z).bind fun l=>L F ((l.length:Nat):Int) 0 l)=some (tab N g):=by
 subst hp;have hm:B*N≤1000*1000000:=Nat.mul_le_mul hB hN;unfold mkI;rw [if_pos (by simp only [Int.toNat_natCast];omega),sbd,List.length_replicate];exact A2o hL hf hN F 0 _ (by simp) (by omega) (by omega) (fun i hi=>by omega)
def irg (lo hi:Int):List Int:=(List.range (hi+1-lo).toNat).map fun i:Nat=>lo+(i:Int)
theorem Zt {lo hi:Int} (h:hi<lo):irg lo hi=[]:=by
 unfold irg;rw [show (hi+1-lo).toNat=0 by omega];rfl
theorem Xn {lo hi:Int} (h:lo≤hi):irg lo hi=lo::irg (lo+1) hi:=by
 unfold irg;rw [show (hi+1-lo).toNat=(hi+1-(lo+1)).toNat+1 by omega,List.range_succ_eq_map,List.map_cons,List.map_map]
 congr 1
 ·simp
 ·apply List.map_congr_left;intro i _;show lo+((i+1:Nat):Int)=lo+1+(i:Int);omega
theorem A2z {lo hi x:Int}:x∈irg lo hi↔lo≤x∧x≤hi:=by
 unfold irg;rw [List.mem_map];constructor
 ·rintro ⟨i,h1,h2⟩;have:=List.mem_range.1 h1;omega
 ·rintro ⟨h1,h2⟩;exact ⟨(x-lo).toNat,List.mem_range.2 (by omega),by omega⟩
theorem Z0 {q j R m:Int} (h1:0≤q) (h2:q<R) (h3:0≤j) (h4:j<m):0≤q*m+j∧q*m+j<R*m:=by
 have a:0≤q*m:=Int.mul_nonneg h1 (by omega);have b:(q+1)*m≤R*m:=Int.mul_le_mul_of_nonneg_right (by omega) (by omega);rw [Int.add_mul] at b;omega
def nb1 (R m k g b:Int):List Int:=((irg (if k%m-g>0 then k%m-g else 0) (if k%m+g<m-1 then k%m+g else m-1)).map fun j=>(b+R)%R*m+j).filter fun o=>o != k
def nbs (R m k r g:Int):List Int:=(if k/m+r-(k/m-r)≥R then irg 0 (R-1) else irg (k/m-r) (k/m+r)).flatMap (nb1 R m k g)
section
variable {σ:Type} {body:σ→Int→Option (σ×Bool)} {f:σ→Int→σ} {P:σ→Nat→Prop} {d:sift_scan} {R m k r g:Int}
theorem ar4 (hR:((d.s.Rays.length:Nat):Int)=R) (hm:d.s.Site.Gates=m) (hR1:1≤R∧R≤1000) (hm1:1≤m∧m≤1000) (hk:0≤k∧k≤1000000) (hg:0≤g∧g≤3)
  (hb:∀s o c,P s c→0≤o→o<R*m→c≤1000000→body s o=some (f s o,true)∧P (f s o) (c+1)) (b:Int) (hb0:0≤b+R∧b≤1000) (k2:Int→σ→Option (σ×Bool)) :
  ∀(n:Nat) (j:Int) (s:σ) (c:Nat),P s c→0≤j→((if k%m+g<m-1 then k%m+g else m-1)+1-j).toNat+1≤n→c+((if k%m+g<m-1 then k%m+g else m-1)+1-j).toNat≤1000000 →
  ∃c',P ((((irg j (if k%m+g<m-1 then k%m+g else m-1)).map fun j=>(b+R)%R*m+j).filter fun o=>o != k).foldl f s) c'∧c'≤c+((if k%m+g<m-1 then k%m+g else m-1)+1-j).toNat ∧
   Cr body k g d (k%m) b k2 n j s=Do b k2 ((((irg j (if k%m+g<m-1 then k%m+g else m-1)).map fun j=>(b+R)%R*m+j).filter fun o=>o != k).foldl f s):=by
 have hkm:0≤k%m∧k%m<m:=⟨Int.emod_nonneg _ (by omega),Int.emod_lt_of_pos _ (by omega)⟩;generalize hhi:(if k%m+g<m-1 then k%m+g else m-1)=hi;have hhi2:hi≤m-1:=by subst hhi;split<;>omega
 have hq:0≤(b+R)%R∧(b+R)%R<R:=⟨Int.emod_nonneg _ (by omega),Int.emod_lt_of_pos _ (by omega)⟩;have hMM:R*m≤1000000:=by
  have:=Int.mul_le_mul hR1.2 hm1.2 (by omega) (by omega);omega
 intro n
 induction n with
 | zero=>intro j s c _ _ h;omega
 | succ n ih =>
  intro j s c hP hj hn hc;show ∃c',_∧_∧Dm body k g d (k%m) b k2 (Cr body k g d (k%m) b k2 n) j s=_;unfold Dm;rw [hm,hR,ckb (by omega),ckb (by omega),hhi]
  by_cases hjh:j≤hi
  ·have hin:=Z0 hq.1 hq.2 hj (show j<m by omega);have hqm:0≤(b+R)%R*m:=Int.mul_nonneg hq.1 (by omega);rw [Bp (dT hjh),ckb (by omega)];rw [show Q7 (b+R) R=some ((b+R)%R) by unfold Q7;rw [if_neg (by omega),Int.tmod_eq_emod_of_nonneg (by omega)],sbd,ckb (by omega),ckb (by omega),Xn hjh,List.map_cons]
   by_cases ho:(b+R)%R*m+j=k
   ·rw [Ar (neF ho),ckb (by omega),List.filter_cons_of_neg (p:=fun o=>o != k) (a:=(b+R)%R*m+j) (by show ¬(((b+R)%R*m+j) != k)=true;rw [neF ho];simp)];obtain ⟨c',h1,h2,h3⟩:=ih (j+1) s c hP (by omega) (by omega) (by omega);exact ⟨c',h1,by omega,h3⟩
   ·obtain ⟨e1,e2⟩:=hb s _ c hP hin.1 hin.2 (by omega);rw [Bp (neT ho),e1,sbd,Bp rfl,ckb (by omega),List.filter_cons_of_pos (p:=fun o=>o != k) (a:=(b+R)%R*m+j) (neT ho),List.foldl_cons];obtain ⟨c',h1,h2,h3⟩:=ih (j+1) _ (c+1) e2 (by omega) (by omega) (by omega);exact ⟨c',h1,by omega,h3⟩
  ·rw [Ar (dF hjh),Zt (by omega)];exact ⟨c,hP,by omega,rfl⟩
theorem ar2 (hR:((d.s.Rays.length:Nat):Int)=R) (hm:d.s.Site.Gates=m) (hR1:1≤R∧R≤1000) (hm1:1≤m∧m≤1000) (hk:0≤k∧k≤1000000) (hg:0≤g∧g≤3)
  (hb:∀s o c,P s c→0≤o→o<R*m→c≤1000000→body s o=some (f s o,true)∧P (f s o) (c+1)) (last:Int) (hl:last≤1000) (F:Nat) (hF:1002≤F) :
  ∀(n:Nat) (b:Int) (s:σ) (c:Nat),P s c→0≤b+R→(last+1-b).toNat+1≤n→c+(last+1-b).toNat*1000≤1000000 →
   C3 F body k g d (k%m) last n b s=some (((irg b last).flatMap (nb1 R m k g)).foldl f s,true):=by
 have hkm:0≤k%m∧k%m<m:=⟨Int.emod_nonneg _ (by omega),Int.emod_lt_of_pos _ (by omega)⟩;intro n
 induction n with
 | zero=>intro b s c _ _ h;omega
 | succ n ih =>
  intro b s c hP hb0 hn hc;show Dl F body k g d (k%m) last (C3 F body k g d (k%m) last n) b s=_;unfold Dl
  by_cases hbl:b≤last
  ·rw [Bp (dT hbl),ckb (by omega),Xn hbl,List.flatMap_cons,List.foldl_append];have hhi:(if k%m+g<m-1 then k%m+g else m-1)≤999:=by split<;>omega
   have hlo:0≤(if k%m-g>0 then k%m-g else 0):=by split<;>omega
   obtain ⟨c',h1,h2,h3⟩:=ar4 hR hm hR1 hm1 hk hg hb b (by omega) (C3 F body k g d (k%m) last n) F (if k%m-g>0 then k%m-g else 0) s c hP hlo (by omega) (by omega);rw [h3];unfold Do;rw [ckb (by omega)];exact ih (b+1) _ c' h1 (by omega) (by omega) (by omega)
  ·rw [Ar (dF hbl),Zt (by omega)];rfl
theorem Wb (hR:((d.s.Rays.length:Nat):Int)=R) (hm:d.s.Site.Gates=m) (hR1:4≤R∧R≤500) (hm1:1≤m∧m≤1000) (hk:0≤k∧k<R*m) (hr:0≤r∧r≤3) (hg:0≤g∧g≤3)
  (hb:∀s o c,P s c→0≤o→o<R*m→c≤1000000→body s o=some (f s o,true)∧P (f s o) (c+1)) {F:Nat} (hF:1002≤F) {s:σ} (h0:P s 0) :
  Dz F (some d) k r g body s=some ((nbs R m k r g).foldl f s,true):=by
 have hMM:R*m≤500000:=by
  have:=Int.mul_le_mul hR1.2 hm1.2 (by omega) (by omega);omega
 have hd:0≤k/m∧k/m<R:=⟨Int.ediv_nonneg hk.1 (by omega),Int.ediv_lt_of_lt_mul (by omega) hk.2⟩;unfold Dz;rw [sbd,hm,hR,show W0 k m=some (k/m) by unfold W0;rw [if_neg (by omega),Int.tdiv_eq_ediv_of_nonneg hk.1];unfold ck;rw [if_pos (by omega)],sbd,
  show Q7 k m=some (k%m) by unfold Q7;rw [if_neg (by omega),Int.tmod_eq_emod_of_nonneg hk.1],sbd,ckb (by omega),ckb (by omega),ckb (by omega)]
 unfold nbs Dn
 by_cases h:k/m+r-(k/m-r)≥R
 ·rw [Bp (dT h),if_pos h,ckb (by omega)];exact ar2 hR hm ⟨by omega,by omega⟩ hm1 ⟨hk.1,by omega⟩ hg hb _ (by omega) F hF F 0 s 0 h0 (by omega) (by omega) (by omega)
 ·rw [Ar (dF h),if_neg h];exact ar2 hR hm ⟨by omega,by omega⟩ hm1 ⟨hk.1,by omega⟩ hg hb _ (by omega) F hF F _ s 0 h0 (by omega) (by omega) (by omega)
end
theorem Zv {R m k r g o:Int} (hR:1≤R) (hm:1≤m) (h:o∈nbs R m k r g):0≤o∧o<R*m:=by
 have key:∀b,o∈nb1 R m k g b→0≤o∧o<R*m:=by
  intro b hb;unfold nb1 at hb;obtain ⟨j,h1,rfl⟩:=List.mem_map.1 ((List.mem_filter.1 hb).1);have h2:=A2z.1 h1;refine Z0 (Int.emod_nonneg _ (by omega)) (Int.emod_lt_of_pos _ (by omega)) ?_ ?_
  ·have:=h2.1;split at this<;>omega
  ·have:=h2.2;split at this<;>omega
 unfold nbs at h;obtain ⟨b,_,h2⟩:=List.mem_flatMap.1 h;exact key b h2
end Go.Proofs.YtkjnafecmjakcaaGreatDoor
namespace Go.Proofs.YtkjnafecmjakcaaGreatDoor
open Go Go.RowKit Go.Eng
set_option maxRecDepth 10000
set_option linter.unusedVariables false
set_option linter.unusedSimpArgs false
def rowS (s:api_Sweep) (k:Int):api_Echo:=((s.Rays[(k/s.Site.Gates).toNat]?.getD [])[(k%s.Site.Gates).toNat]?).getD default
def pt (n:Int):sift_val:=⟨⟨n,n⟩,true⟩
def noV:sift_val:=⟨⟨0,0⟩,false⟩
def Pd (s:api_Sweep) (op v k:Int):sift_val :=
 if op=14 then pt v else if op=21 then pt (rowS s k).Kind else if op=22 then pt (k/s.Site.Gates) else if op=23 then pt (k%s.Site.Gates) else if op=24 then pt s.Tilt else if op=15 then ⟨(rowS s k).Power,true⟩
 else if (rowS s k).Kind=1 then noV else if op=16 then ⟨(rowS s k).Ratio,true⟩ else if op=17 then ⟨(rowS s k).Match,true⟩ else if op=18 then pt (rowS s k).Spread else if (rowS s k).Kind=2 then noV else if op=19 then ⟨(rowS s k).Turn,true⟩ else ⟨⟨(rowS s k).Steps.1.Lo,(rowS s k).Steps.1.Hi⟩,true⟩
def tri (a b:Prop) [Decidable a] [Decidable b]:Int:=if a then 1 else if b then 2 else 3
def mx (a b:Int):Int:=if b>a then b else a
def mn (a b:Int):Int:=if b<a then b else a
def Ra (op:Int) (x y:api_Span):Int :=
 if op=8∨op=10 then tri (x.Hi<y.Lo) (x.Lo<y.Hi) else if op=9∨op=11 then tri (x.Hi≤y.Lo) (x.Lo≤y.Hi)
 else if op=12 then tri (mx x.Hi y.Hi=mn x.Lo y.Lo) (x.Lo≤y.Hi∧y.Lo≤x.Hi) else tri (x.Hi<y.Lo∨y.Hi<x.Lo) (mx x.Hi y.Hi≠mn x.Lo y.Lo)
def Ux (op:Int) (a b:sift_val):Int :=
 if a.has=false∨b.has=false then 3 else if op=10∨op=11 then Ra op b.span a.span else Ra op a.span b.span
def V1 (op:Int) (a b:sift_val):sift_val :=
 if a.has=false∨b.has=false then noV else if op=27 then ⟨⟨a.span.Lo-b.span.Hi,a.span.Hi-b.span.Lo⟩,true⟩ else ⟨⟨a.span.Lo+b.span.Lo,a.span.Hi+b.span.Hi⟩,true⟩
def Sj (op:Int) (l:List Int) (f:Int→Int):Int :=
 if op=6 then l.foldl (fun a o=>mn a (f o)) 3 else l.foldl (fun a o=>mx a (f o)) 1
def Pb (l:List Int) (f:Int→Int):sift_val:=⟨⟨l.countP fun o=>f o==1,l.countP fun o=>f o != 3⟩,true⟩
def T.sem (s:api_Sweep):T→Int→Int×sift_val
 | .leaf op v,k=>(if op=1 then 1 else 3,Pd s op v k)
 | .un op r g a,k=>(if op=3 then 4-(a.sem s k).1 else Sj op (nbs s.Rays.length s.Site.Gates k r g) fun o=>(a.sem s o).1,Pb (nbs s.Rays.length s.Site.Gates k r g) fun o=>(a.sem s o).1)
 | .bin op a b,k=>(if op=4 then mx (a.sem s k).1 (b.sem s k).1 else if op=5 then mn (a.sem s k).1 (b.sem s k).1 else Ux op (a.sem s k).2 (b.sem s k).2,V1 op (a.sem s k).2 (b.sem s k).2)
def bdS (x:api_Span):Prop:=-2147483648≤x.Lo∧x.Lo≤2147483648∧-2147483648≤x.Hi∧x.Hi≤2147483648
def bdE (e:api_Echo):Prop:=bdS e.Power∧bdS e.Ratio∧bdS e.Match∧bdS e.Turn∧bdS e.Steps.1∧bdS e.Steps.2∧0≤e.Kind∧e.Kind≤3∧0≤e.Spread∧e.Spread≤65535
structure Swp (s:api_Sweep) (R m:Nat):Prop where
 hR:s.Rays.length=R
 hm:s.Site.Gates=m
 R4:4≤R∧R≤500
 m1:1≤m∧m≤1000
 N1:R*m≤1000
 rows:∀l∈s.Rays,l.length=m
 bds:∀l∈s.Rays,∀e∈l,bdE e
 tilt:0≤s.Tilt∧s.Tilt≤256
theorem km {R m:Nat} {k:Int} (hm:1≤m) (h:0≤k∧k<(R*m:Nat)):0≤k/m∧k/m<R∧0≤k%m∧k%m<m:=by
 rw [Int.natCast_mul] at h;exact ⟨Int.ediv_nonneg h.1 (by omega),Int.ediv_lt_of_lt_mul (by omega) h.2,Int.emod_nonneg _ (by omega),Int.emod_lt_of_pos _ (by omega)⟩
theorem V3 {s:api_Sweep} {R m:Nat} (h:Swp s R m) {k:Int} (hk:0≤k∧k<(R*m:Nat)) :
  ∃row,s.Rays[(k/m).toNat]? = some row∧row[(k%m).toNat]? = some (rowS s k)∧bdE (rowS s k):=by
 obtain ⟨a,b,c,d⟩:=km h.m1.1 hk;have h1:(k/m).toNat<s.Rays.length:=by rw [h.hR];omega
 have h2:(k%m).toNat<(s.Rays[(k/m).toNat]).length:=by rw [h.rows _ (List.getElem_mem h1)];omega
 have e:rowS s k=(s.Rays[(k/m).toNat])[(k%m).toNat]:=by
  unfold rowS;rw [h.hm,List.getElem?_eq_getElem h1,Option.getD_some,List.getElem?_eq_getElem h2,Option.getD_some]
 refine ⟨_,List.getElem?_eq_getElem h1,?_,?_⟩
 ·rw [e];exact List.getElem?_eq_getElem h2
 ·rw [e];exact h.bds _ (List.getElem_mem h1) _ (List.getElem_mem h2)
theorem A44 {β:Type} {k m:Int} {f:Int→Option β} (hk:0≤k∧k≤1000000) (hm:1≤m):(W0 k m).bind f=f (k/m):=by
 have h0:0≤k/m:=Int.ediv_nonneg hk.1 (by omega);have h1:k/m≤k:=Int.ediv_le_self _ hk.1;unfold W0;rw [if_neg (by omega),Int.tdiv_eq_ediv_of_nonneg hk.1,ckb (by omega)]
theorem Tw {β:Type} {k m:Int} {f:Int→Option β} (hk:0≤k) (hm:1≤m):(Q7 k m).bind f=f (k%m):=by
 unfold Q7;rw [if_neg (by omega),Int.tmod_eq_emod_of_nonneg hk];rfl
theorem Swp.lt {s:api_Sweep} {R m:Nat} (h:Swp s R m) {k:Int} (hk:0≤k∧k<(R*m:Nat)):k≤1000000:=by have:=h.N1;omega
theorem A1l {s:api_Sweep} {R m:Nat} (h:Swp s R m) {k:Int} (hk:0≤k∧k<(R*m:Nat)) (F:Nat) {d:sift_scan} (hd:d.s=s) (p:sift_Node) :
  Ea F k (some d) p=some (Pd s p.Op p.Value_ k):=by
 obtain ⟨row,h1,h2,-⟩:=V3 h hk;obtain ⟨a,b,c,e⟩:=km h.m1.1 hk;have h3:=h.m1;have h4:=h.lt hk;unfold Ea;rw [sbd,hd,h.hm,A44 ⟨hk.1,h4⟩ (by omega),Mm (k/m).toNat row (by omega) h1,Tw hk.1 (by omega),Mm (k%m).toNat _ (by omega) h2,A44 ⟨hk.1,h4⟩ (by omega),Tw hk.1 (by omega)];unfold Pd A4;rw [h.hm];simp only [Bool.cond_eq_ite,beq_iff_eq,apply_ite some];rfl
theorem A11 {a b:Bool} {p q:Prop} [Decidable p] [Decidable q] (h1:a=true↔p) (h2:b=true↔q):Bd a b=some (tri p q):=by
 unfold Bd tri
 by_cases hp:p
 ·rw [Bp (h1.2 hp),if_pos hp]
 ·rw [Ar (by cases a<;>simp_all),if_neg hp]
  by_cases hq:q
  ·rw [Bp (h2.2 hq),if_pos hq]
  ·rw [Ar (by cases b<;>simp_all),if_neg hq]
theorem A5a {p q:Prop} [Decidable p] [Decidable q]:(bif decide p then decide q else false)=true↔p∧q:=by by_cases h:p<;>simp [h]
theorem orB {p q:Prop} [Decidable p] [Decidable q]:(bif decide p then true else decide q)=true↔p∨q:=by by_cases h:p<;>simp [h]
theorem A3x {op:Int} {x y:api_Span} (h:op=8∨op=10):Ra op x y=tri (x.Hi<y.Lo) (x.Lo<y.Hi):=by unfold Ra;rw [if_pos h]
theorem A3y {op:Int} {x y:api_Span} (h:op=9∨op=11):Ra op x y=tri (x.Hi≤y.Lo) (x.Lo≤y.Hi):=by
 have h1:¬(op=8∨op=10):=by omega
 unfold Ra;rw [if_neg h1,if_pos h]
theorem A4f {x y:api_Span}:Ra 12 x y=tri (mx x.Hi y.Hi=mn x.Lo y.Lo) (x.Lo≤y.Hi∧y.Lo≤x.Hi):=rfl
theorem A4g {x y:api_Span}:Ra 13 x y=tri (x.Hi<y.Lo∨y.Hi<x.Lo) (mx x.Hi y.Hi≠mn x.Lo y.Lo):=rfl
theorem Zg {p:sift_Node} {x y:api_Span} (hop:8≤p.Op∧p.Op≤13):Cj p x.Lo x.Hi y.Lo y.Hi=some (Ra p.Op x y):=by
 unfold Cj D4 D5
 by_cases h8:p.Op=8
 ·rw [Bp (eqT h8),Bp (eqT h8),A3x (.inl h8)];exact A11 decide_eq_true_iff decide_eq_true_iff
 rw [Ar (eqF h8)]
 by_cases h10:p.Op=10
 ·rw [Bp (eqT h10),A3x (.inr h10)];exact A11 decide_eq_true_iff decide_eq_true_iff
 rw [Ar (eqF h10)]
 by_cases h9:p.Op=9
 ·rw [Bp (eqT h9),Bp (eqT h9),A3y (.inl h9)];exact A11 decide_eq_true_iff decide_eq_true_iff
 rw [Ar (eqF h9)]
 by_cases h11:p.Op=11
 ·rw [Bp (eqT h11),A3y (.inr h11)];exact A11 decide_eq_true_iff decide_eq_true_iff
 rw [Ar (eqF h11)]
 by_cases h12:p.Op=12
 ·rw [Bp (eqT h12),h12,A4f];exact A11 beq_iff_eq A5a
 have h13:p.Op=13:=by omega
 rw [Ar (eqF h12),Bp (eqT h13),h13,A4g];exact A11 orB bne_iff_ne
theorem A2m {R m:Nat} {f g:Int→sift_val} {k:Int} (hk:0≤k∧k<(R*m:Nat)) (F:Nat) (p:sift_Node) (hop:8≤p.Op∧p.Op≤13) :
  D3 F k (tab (R*m) f) (tab (R*m) g) p=some (Ux p.Op (f k) (g k)):=by
 unfold D3 Ux;rw [R7 hk]
 cases hf:(f k).has
 ·rw [gdF (g:=(!false)==false&&true) rfl,sbd];simp
 ·rw [gdT (g:=(!true)==false&&true) rfl,R7 hk]
  cases hg:(g k).has
  ·simp
  ·rw [Ar (c:=bif !true then true else !true) rfl,R7 hk,R7 hk,if_neg (by simp)]
   by_cases h:p.Op=10∨p.Op=11
   ·rw [Bp (by rcases h with h|h<;>rw [h]<;>rfl),if_pos h,Zg hop]
   ·rw [Ar (by rw [eqF (show p.Op≠10 by omega),eqF (show p.Op≠11 by omega)];rfl),if_neg h,Zg hop]
def bdV (n:Nat) (x:sift_val):Prop:=-((n:Int)*2147483648)≤x.span.Lo∧x.span.Lo≤(n:Int)*2147483648∧-((n:Int)*2147483648)≤x.span.Hi∧x.span.Hi≤(n:Int)*2147483648
theorem Ye {x:Int} (h:-9000000000000000000≤x∧x≤9000000000000000000):IntKind.i64.wrap (0-x)=-x:=by
 rw [Go.Eng.wrap64 (by omega)];omega
theorem A3k {R m:Nat} {f g:Int→sift_val} {k:Int} (hk:0≤k∧k<(R*m:Nat)) (F:Nat) (p:sift_Node) {u v:Nat} (hf:bdV u (f k)) (hg:bdV v (g k)) (huv:u+v≤1000000) :
  Fv F k (tab (R*m) f) (tab (R*m) g) p=some (V1 p.Op (f k) (g k)):=by
 obtain ⟨f1,f2,f3,f4⟩:=hf;obtain ⟨g1,g2,g3,g4⟩:=hg;unfold Fv V1 F6;rw [R7 hk]
 cases hf:(f k).has
 ·rw [gdF (g:=(!false)==false&&true) rfl,sbd];simp [noV]
 ·rw [gdT (g:=(!true)==false&&true) rfl,R7 hk]
  cases hg:(g k).has
  ·simp [noV]
  ·rw [Ar (c:=bif !true then true else !true) rfl,R7 hk,R7 hk,if_neg (by simp)]
   by_cases h:p.Op=27
   ·rw [Bp (eqT h),if_pos h,Ye (by omega),Ye (by omega),ckb (by omega),ckb (by omega),Int.sub_eq_add_neg,Int.sub_eq_add_neg]
   ·rw [Ar (eqF h),if_neg h,ckb (by omega),ckb (by omega)]
theorem A0r {p:sift_Node} {f:Int→Int} (l:List Int) (x:Int):l.foldl (fun (s:Int×Nat) o=>if p.Op=6 then (mn s.1 (f o),0) else (mx s.1 (f o),0)) (x,0)=(if p.Op=6 then l.foldl (fun a o=>mn a (f o)) x else l.foldl (fun a o=>mx a (f o)) x,0):=by
 induction l generalizing x with
 | nil=>simp
 | cons o l ih =>
  simp only [List.foldl_cons]
  by_cases h:p.Op=6
  ·simp only [if_pos h] at ih ⊢;exact ih _
  ·simp only [if_neg h] at ih ⊢;exact ih _
theorem A31 {s:api_Sweep} {R m:Nat} (h:Swp s R m) {k:Int} (hk:0≤k∧k<(R*m:Nat)) {F:Nat} (hF:1002≤F) {d:sift_scan} (hd:d.s=s) (p:sift_Node) (hop:p.Op=6∨p.Op=7) (hr:0≤p.Rays∧p.Rays≤3) (hg:0≤p.Gates∧p.Gates≤3) (f:Int→Int) :
  Ex F k p (some d) (tab (R*m) f)=some (Sj p.Op (nbs s.Rays.length s.Site.Gates k p.Rays p.Gates) f):=by
 have key:∀x,D6 F k p (some d) (tab (R*m) f) x=some (if p.Op=6 then (nbs R m k p.Rays p.Gates).foldl (fun a o=>mn a (f o)) x else (nbs R m k p.Rays p.Gates).foldl (fun a o=>mx a (f o)) x):=by
  intro x;unfold D6;have:=h.R4;have:=h.m1;rw [Wb (R:=(R:Int)) (m:=(m:Int)) (P:=fun _ _=>True) (f:=fun (s:Int×Nat) o=>if p.Op=6 then (mn s.1 (f o),0) else (mx s.1 (f o),0)) (by rw [hd,h.hR]) (by rw [hd,h.hm]) (by omega) (by omega) ⟨hk.1,by rw [←Int.natCast_mul];exact hk.2⟩ hr hg ?_ hF trivial,sbd,A0r]
  ·rfl
  ·intro s o c _ h1 h2 _;rw [←Int.natCast_mul] at h2;refine ⟨?_,trivial⟩;unfold Gn;rcases hop with e|e
   ·rw [Bp (eqT e),R7 ⟨h1,h2⟩];simp only [if_pos e];rfl
   ·have n6:p.Op≠6:=by omega
    rw [Ar (eqF n6),R7 ⟨h1,h2⟩];simp only [if_neg n6];rfl
 unfold Ex Sj;rw [h.hR,h.hm];rcases hop with e|e
 ·rw [Ar (eqF (by omega)),key];simp only [if_pos e]
 ·have n6:p.Op≠6:=by omega
  rw [Bp (eqT e),key];simp only [if_neg n6]
theorem A1c {f:Int→Int} (l:List Int) (x y:Int):l.foldl (fun (s:Int×Int×Nat) o=>(if f o=1 then s.1+1 else s.1,if f o≠3 then s.2.1+1 else s.2.1,0)) (x,y,0)=(x+l.countP (fun o=>f o==1),y+l.countP (fun o=>f o != 3),0):=by
 induction l generalizing x y with
 | nil=>simp
 | cons o l ih =>
  simp only [List.foldl_cons,List.countP_cons];rw [ih]
  by_cases h1:f o=1<;>by_cases h2:f o=3<;>simp [h1,h2]<;>omega
theorem A1d {s:api_Sweep} {R m:Nat} (h:Swp s R m) {k:Int} (hk:0≤k∧k<(R*m:Nat)) {F:Nat} (hF:1002≤F) {d:sift_scan} (hd:d.s=s) (p:sift_Node) (hr:0≤p.Rays∧p.Rays≤3) (hg:0≤p.Gates∧p.Gates≤3) (f:Int→Int) :
  E8 F k (some d) p (tab (R*m) f)=some (Pb (nbs s.Rays.length s.Site.Gates k p.Rays p.Gates) f):=by
 unfold E8;have:=h.R4;have:=h.m1;rw [Wb (R:=(R:Int)) (m:=(m:Int)) (P:=fun (s:Int×Int×Nat) c=>0≤s.1∧s.1≤c∧0≤s.2.1∧s.2.1≤c) (f:=fun (s:Int×Int×Nat) o=>(if f o=1 then s.1+1 else s.1,if f o≠3 then s.2.1+1 else s.2.1,0)) (by rw [hd,h.hR]) (by rw [hd,h.hm]) (by omega) (by omega) ⟨hk.1,by rw [←Int.natCast_mul];exact hk.2⟩ hr hg ?_ hF (by simp),sbd,A1c]
 ·rw [Bp rfl];unfold Pb;rw [h.hR,h.hm];simp
 ·intro s o c hP h1 h2 hc;obtain ⟨p1,p2,p3,p4⟩:=hP;rw [←Int.natCast_mul] at h2;refine ⟨?_,?_⟩
  ·have k2:∀x,Cw (tab (R*m) f) s o x=some ((x,if f o≠3 then s.2.1+1 else s.2.1,0),true):=by
    intro x;unfold Cw;rw [R7 ⟨h1,h2⟩]
    by_cases e:f o=3
    ·rw [Ar (neF e),if_neg (by simp [e])]
    ·rw [Bp (neT e),ckb (by omega),if_pos e]
   unfold Ge;rw [R7 ⟨h1,h2⟩]
   by_cases e:f o=1
   ·rw [Bp (eqT e),ckb (by omega),k2,if_pos e]
   ·rw [Ar (eqF e),k2,if_neg e]
  ·dsimp only;refine ⟨?_,?_,?_,?_⟩<;>split<;>omega
end Go.Proofs.YtkjnafecmjakcaaGreatDoor
namespace Go.Proofs.YtkjnafecmjakcaaGreatDoor
open Go Go.RowKit Go.Eng
set_option maxRecDepth 10000
set_option linter.unusedVariables false
set_option linter.unusedSimpArgs false
theorem Zp {α:Type} {P:α→Prop} {f:α→Int→α} (hf:∀a o,P a→P (f a o)):∀(l:List Int) (x:α),P x→P (l.foldl f x):=by
 intro l
 induction l with
 | nil=>intro x h;exact h
 | cons o l ih=>intro x h;exact ih _ (hf _ _ h)
theorem Za {a b:Prop} [Decidable a] [Decidable b]:1≤tri a b∧tri a b≤3:=by unfold tri;split<;>(try split)<;>omega
theorem A2l {op:Int} {x y:api_Span}:1≤Ra op x y∧Ra op x y≤3:=by
 unfold Ra
 split
 ·exact Za
 ·split
  ·exact Za
  ·split<;>exact Za
theorem A3f (s:api_Sweep):∀(t:T),okT true t→∀k,1≤(t.sem s k).1∧(t.sem s k).1≤3:=by
 intro t
 induction t with
 | leaf op v=>intro h k;simp only [T.sem];split<;>omega
 | un op r g a ih =>
  intro h k;simp only [okT] at h;have ih:=ih h.2;simp only [T.sem]
  split
  ·have:=ih k;omega
  ·unfold Sj
   split
   ·exact Zp (P:=fun x=>1≤x∧x≤3) (fun a o ha=>by have:=ih o;unfold mn;split<;>omega) _ _ (by omega)
   ·exact Zp (P:=fun x=>1≤x∧x≤3) (fun a o ha=>by have:=ih o;unfold mx;split<;>omega) _ _ (by omega)
 | bin op a b iha ihb =>
  intro h k;simp only [okT] at h;simp only [T.sem];rcases h with h|h
  ·have:=iha h.2.1 k;have:=ihb h.2.2 k
   split
   ·unfold mx;split<;>omega
   ·rw [if_pos (by omega)];unfold mn;split<;>omega
  ·rw [if_neg (by omega),if_neg (by omega)];unfold Ux
   split
   ·omega
   ·split<;>exact A2l
theorem Ml {f:Int→List Int} {c:Nat} (hf:∀x,(f x).length≤c):∀l:List Int,(l.flatMap f).length≤l.length*c:=by
 intro l
 induction l with
 | nil=>simp
 | cons x l ih =>
  rw [List.flatMap_cons,List.length_append,List.length_cons,Nat.add_mul];have:=hf x;omega
theorem A30 {R m k r g:Int} (hR:1≤R∧R≤500) (hm:1≤m∧m≤1000) (hr:0≤r∧r≤3):(nbs R m k r g).length≤1000000:=by
 have h1:∀b,(nb1 R m k g b).length≤1000:=by
  intro b;unfold nb1;refine Nat.le_trans (List.length_filter_le _ _) ?_;rw [List.length_map];unfold irg;rw [List.length_map,List.length_range]
  split<;>split<;>omega
 unfold nbs;refine Nat.le_trans (Ml h1 _) ?_;have:(if k/m+r-(k/m-r)≥R then irg 0 (R-1) else irg (k/m-r) (k/m+r)).length≤1000:=by
  unfold irg
  split<;>rw [List.length_map,List.length_range]<;>omega
 omega
theorem U3 {x:Int} (h:-2147483648≤x∧x≤2147483648):bdV 1 (pt x):=by unfold bdV pt;dsimp only;omega
theorem Yi {n:Nat}:bdV n noV:=by unfold bdV noV;dsimp only;omega
theorem V7 {x:api_Span} {b:Bool} (h:bdS x):bdV 1 ⟨x,b⟩:=by unfold bdV;unfold bdS at h;dsimp only;omega
theorem Kp {n:Nat} {c:Prop} [Decidable c] {x y:sift_val} (h1:c→bdV n x) (h2:¬c→bdV n y):bdV n (if c then x else y):=by
 by_cases h:c
 ·rw [if_pos h];exact h1 h
 ·rw [if_neg h];exact h2 h
theorem A25 {s:api_Sweep} {R m:Nat} (h:Swp s R m):∀(t:T),okT false t→∀k:Int,0≤k∧k<(R*m:Nat)→bdV t.size (t.sem s k).2:=by
 intro t
 induction t with
 | leaf op v =>
  intro ho k hk;obtain ⟨row,-,-,e⟩:=V3 h hk;obtain ⟨e1,e2,e3,e4,e5,e6,e7,e8,e9,e10⟩:=e;obtain ⟨a,b,c,d⟩:=km h.m1.1 hk;have:=h.R4;have:=h.m1;have:=h.tilt;simp only [okT] at ho;simp only [T.sem,T.size,Pd];rw [h.hm];exact Kp (fun _=>U3 (by omega)) fun _=>Kp (fun _=>U3 (by omega)) fun _=>Kp (fun _=>U3 (by omega)) fun _=>Kp (fun _=>U3 (by omega)) fun _=>Kp (fun _=>U3 (by omega)) fun _=>Kp (fun _=>V7 e1) fun _=>Kp (fun _=>Yi) fun _=>Kp (fun _=>V7 e2) fun _=>Kp (fun _=>V7 e3) fun _=>Kp (fun _=>U3 (by omega)) fun _=>Kp (fun _=>Yi) fun _=>Kp (fun _=>V7 e4) fun _=>V7 e5
 | un op r g a ih =>
  intro ho k hk;simp only [okT] at ho;simp only [T.sem,T.size,Pb];have:=h.R4;have:=h.m1;have h1:=A30 (R:=s.Rays.length) (m:=s.Site.Gates) (k:=k) (r:=r) (g:=g) (by rw [h.hR];omega) (by rw [h.hm];omega) (by omega);have h2:=List.countP_le_length (p:=fun o=>(a.sem s o).1==1) (l:=nbs s.Rays.length s.Site.Gates k r g);have h3:=List.countP_le_length (p:=fun o=>(a.sem s o).1 != 3) (l:=nbs s.Rays.length s.Site.Gates k r g);have:=a.size_pos;unfold bdV;dsimp only;omega
 | bin op a b iha ihb =>
  intro ho k hk;simp only [okT] at ho;have h1:=iha ho.2.1 k hk;have h2:=ihb ho.2.2.1 k hk;simp only [T.sem,T.size,V1]
  split
  ·exact Yi
  ·unfold bdV at *
   split<;>dsimp only<;>omega
section
variable {κ ν:Type} [DecidableEq κ]
theorem A41 (B:List (κ×ν)) (x y:κ) (v:ν):lkM (upM B x v) y=if y=x then some v else lkM B y:=by
 induction B with
 | nil=>unfold upM lkM;split<;>rfl
 | cons p B ih =>
  unfold upM
  by_cases hx:x=p.1
  ·rw [if_pos hx];unfold lkM
   by_cases hy:y=x
   ·simp [hy]
   ·simp only [if_neg hy];rw [if_neg (by rw [←hx];exact hy)]
  ·rw [if_neg hx];unfold lkM
   by_cases hy:y=p.1
   ·rw [if_pos hy,if_pos hy,if_neg (fun e=>hx (by rw [←e,hy]))]
   ·rw [if_neg hy,if_neg hy,ih]
end
structure Inv (s:api_Sweep) (N:Nat) (d:sift_scan):Prop where
 hs:d.s=s
 hn:d.n=(N:Int)
 ht:∀t l,okT true t→lkM d.tests (tb (textT t))=some l→l=tab N fun k=>(t.sem s k).1
 hv:∀t l,okT false t→lkM d.values (tb (textT t))=some l→l=tab N fun k=>(t.sem s k).2
section
variable {s:api_Sweep} {R m N:Nat} {d d':sift_scan}
theorem Inv.eta (h:Inv s N d) (h':Inv s N d'):sift_scan.mk d.s d.n d'.tests d'.values=d':=by
 cases d;cases d'
 have e1:=h.hs;have e2:=h.hn;have e3:=h'.hs;have e4:=h'.hn;simp only at e1 e2 e3 e4 ⊢;rw [e1,e2,e3,e4]
theorem Inv.upT (h:Inv s N d) {t:T} (ht:okT true t):Inv s N ⟨d.s,d.n,upM d.tests (tb (textT t)) (tab N fun k=>(t.sem s k).1),d.values⟩:=by
 refine ⟨h.hs,h.hn,fun t' l h1 h2=>?_,h.hv⟩;rw [A41] at h2
 by_cases e:tb (textT t')=tb (textT t)
 ·rw [if_pos e] at h2
  cases Y9 h1 ht (A29 e)
  cases h2;rfl
 ·rw [if_neg e] at h2;exact h.ht t' l h1 h2
theorem Inv.upV (h:Inv s N d) {t:T} (ht:okT false t):Inv s N ⟨d.s,d.n,d.tests,upM d.values (tb (textT t)) (tab N fun k=>(t.sem s k).2)⟩:=by
 refine ⟨h.hs,h.hn,h.ht,fun t' l h1 h2=>?_⟩;rw [A41] at h2
 by_cases e:tb (textT t')=tb (textT t)
 ·rw [if_pos e] at h2
  cases Y9 h1 ht (A29 e)
  cases h2;rfl
 ·rw [if_neg e] at h2;exact h.hv t' l h1 h2
theorem A2c {p:sift_Node} {F:Nat} (hd:Inv s N d) (hN:N≤1000) (hF:2000≤F) (hop:p.Op=1∨p.Op=2):Eb F (some d) p=some (tab N fun _=>if p.Op=1 then 1 else 3):=by
 unfold Eb Gx;rw [sbd,P2 (L:=Dp F p) (f:=fun i=>Ec F i p) (fun _ _ _ _=>rfl) ?_ (by omega) (by omega) hd.hn (by omega)]
 ·rfl
 ·intro i _ _;show Ec F i p=_;unfold Ec;rcases hop with e|e
  ·rw [Mm 1 1 (by rw [e];rfl) rfl,if_pos e]
  ·rw [Mm 2 3 (by rw [e];rfl) rfl,if_neg (by omega)]
theorem A4q {S:Af} {V:Ae} {p u:sift_Node} {F:Nat} {f:Int→Int} (hd:Inv s N d) (hN:N≤1000) (hF:2000≤F) (ha:p.Args=[u]) (hS:S d u=some (tab N f,d')) (hd':Inv s N d') (hf:∀k,1≤f k∧f k≤3) :
  H8 F S V d p=some (tab N fun k=>4-f k,d'):=by
 unfold H8 Gy;rw [ha,Vu,hS,sbd];dsimp only;rw [P2 (L:=Dq F (tab N f)) (f:=fun i=>Fu F i (tab N f)) (g:=fun k=>4-f k) (fun _ _ _ _=>rfl) ?_ (by omega) (by omega) hd.hn (by omega),sbd,hd.eta hd'];intro i h1 h2;show Fu F i _=_;unfold Fu;have:=hf i;rw [R7 ⟨h1,h2⟩,ckb (by omega)]
theorem A2i {S:Af} {V:Ae} {p u v:sift_Node} {F:Nat} {f g:Int→Int} {d1:sift_scan} (hd:Inv s N d) (hN:N≤1000) (hF:2000≤F) (ha:p.Args=[u,v]) (hS:S d u=some (tab N f,d1)) (hd1:Inv s N d1) (hS2:S d1 v=some (tab N g,d')) (hd':Inv s N d') :
  Ez F S V d p=some (tab N fun k=>if p.Op=4 then mx (f k) (g k) else mn (f k) (g k),d'):=by
 unfold Ez Gz;rw [ha,Vu,A2t,hS,sbd];dsimp only;rw [hd.eta hd1,hS2,sbd];dsimp only;rw [P2 (L:=Dr F p (tab N f) (tab N g)) (f:=fun i=>Ew F i p (tab N f) (tab N g)) (g:=fun k=>if p.Op=4 then mx (f k) (g k) else mn (f k) (g k)) (fun _ _ _ _=>rfl) ?_ (by omega) (by omega) hd.hn (by omega),sbd,hd.eta hd'];intro i h1 h2;show Ew F i p _ _=_;unfold Ew
 by_cases e:p.Op=4
 ·rw [Bp (eqT e),R7 ⟨h1,h2⟩,R7 ⟨h1,h2⟩];simp only [if_pos e];rfl
 ·rw [Ar (eqF e),R7 ⟨h1,h2⟩,R7 ⟨h1,h2⟩];simp only [if_neg e];rfl
theorem A1r {S:Af} {V:Ae} {p u:sift_Node} {F:Nat} {f:Int→Int} (h:Swp s R m) (hd:Inv s (R*m) d) (hF:2000≤F) (ha:p.Args=[u]) (hop:p.Op=6∨p.Op=7) (hr:0≤p.Rays∧p.Rays≤3) (hg:0≤p.Gates∧p.Gates≤3) (hS:S d u=some (tab (R*m) f,d')) (hd':Inv s (R*m) d') :
  F1 F S V d p=some (tab (R*m) fun k=>Sj p.Op (nbs s.Rays.length s.Site.Gates k p.Rays p.Gates) f,d'):=by
 have hN:=h.N1;unfold F1 H0;rw [ha,Vu,hS,sbd];dsimp only;rw [hd.eta hd',P2 (L:=Dt F p (some d') (tab (R*m) f)) (f:=fun i=>Ex F i p (some d') (tab (R*m) f)) (g:=fun k=>Sj p.Op (nbs s.Rays.length s.Site.Gates k p.Rays p.Gates) f) (fun _ _ _ _=>rfl) (fun i h1 h2=>A31 h ⟨h1,h2⟩ (by omega) hd'.hs p hop hr hg f) (by omega) (by omega) hd.hn (by omega),sbd]
theorem A2k {S:Af} {V:Ae} {p u v:sift_Node} {F:Nat} {f g:Int→sift_val} {d1:sift_scan} (h:Swp s R m) (hd:Inv s (R*m) d) (hF:2000≤F) (ha:p.Args=[u,v]) (hop:8≤p.Op∧p.Op≤13) (hS:V d u=some (tab (R*m) f,d1)) (hd1:Inv s (R*m) d1) (hS2:V d1 v=some (tab (R*m) g,d')) (hd':Inv s (R*m) d') :
  Bn F S V d p=some (tab (R*m) fun k=>Ux p.Op (f k) (g k),d'):=by
 have hN:=h.N1;unfold Bn H3;rw [ha,Vu,A2t,hS,sbd];dsimp only;rw [hd.eta hd1,hS2,sbd];dsimp only;rw [P2 (L:=Du F (tab (R*m) f) (tab (R*m) g) p) (f:=fun i=>D3 F i (tab (R*m) f) (tab (R*m) g) p) (g:=fun k=>Ux p.Op (f k) (g k)) (fun _ _ _ _=>rfl) (fun i h1 h2=>A2m ⟨h1,h2⟩ F p hop) (by omega) (by omega) hd.hn (by omega),sbd,hd.eta hd']
theorem A0c {p:sift_Node} {F:Nat} (h:Swp s R m) (hd:Inv s (R*m) d) (hF:2000≤F):E9 F (some d) p=some (tab (R*m) fun k=>Pd s p.Op p.Value_ k):=by
 have hN:=h.N1;unfold E9 Eh;rw [sbd,P2 (L:=Cf F (some (sift_scan.mk d.s d.n [] [])) p) (f:=fun i=>Ea F i (some (sift_scan.mk d.s d.n [] [])) p) (g:=fun k=>Pd s p.Op p.Value_ k) (fun _ _ _ _=>rfl) (fun i h1 h2=>A1l h ⟨h1,h2⟩ F hd.hs p) (by omega) (by omega) hd.hn (by omega),sbd]
theorem A09 {S:Af} {V:Ae} {p u:sift_Node} {F:Nat} {f:Int→Int} (h:Swp s R m) (hd:Inv s (R*m) d) (hF:2000≤F) (ha:p.Args=[u]) (hr:0≤p.Rays∧p.Rays≤3) (hg:0≤p.Gates∧p.Gates≤3) (hS:S d u=some (tab (R*m) f,d')) (hd':Inv s (R*m) d') :
  Ft F S V d p=some (tab (R*m) fun k=>Pb (nbs s.Rays.length s.Site.Gates k p.Rays p.Gates) f,d'):=by
 have hN:=h.N1;unfold Ft Ei;rw [ha,Vu,hS,sbd];dsimp only;rw [hd.eta hd',P2 (L:=Cg F (some d') p (tab (R*m) f)) (f:=fun i=>E8 F i (some d') p (tab (R*m) f)) (g:=fun k=>Pb (nbs s.Rays.length s.Site.Gates k p.Rays p.Gates) f) (fun _ _ _ _=>rfl) (fun i h1 h2=>A1d h ⟨h1,h2⟩ (by omega) hd'.hs p hr hg f) (by omega) (by omega) hd.hn (by omega),sbd]
theorem A3j {S:Af} {V:Ae} {p u v:sift_Node} {F:Nat} {f g:Int→sift_val} {d1:sift_scan} {a b:Nat} (h:Swp s R m) (hd:Inv s (R*m) d) (hF:2000≤F) (ha:p.Args=[u,v]) (hS:V d u=some (tab (R*m) f,d1)) (hd1:Inv s (R*m) d1) (hS2:V d1 v=some (tab (R*m) g,d')) (hd':Inv s (R*m) d')
  (hf:∀k:Int,0≤k∧k<(R*m:Nat)→bdV a (f k)) (hg:∀k:Int,0≤k∧k<(R*m:Nat)→bdV b (g k)) (hab:a+b≤1000000):Ga F S V d p=some (tab (R*m) fun k=>V1 p.Op (f k) (g k),d'):=by
 have hN:=h.N1;unfold Ga Ej;rw [ha,Vu,A2t,hS,sbd];dsimp only;rw [hd.eta hd1,hS2,sbd];dsimp only;rw [P2 (L:=Ch F (tab (R*m) f) (tab (R*m) g) p) (f:=fun i=>Fv F i (tab (R*m) f) (tab (R*m) g) p) (g:=fun k=>V1 p.Op (f k) (g k)) (fun _ _ _ _=>rfl) (fun i h1 h2=>A3k ⟨h1,h2⟩ F p (hf i ⟨h1,h2⟩) (hg i ⟨h1,h2⟩) hab) (by omega) (by omega) hd.hn (by omega),sbd,hd.eta hd']
end
end Go.Proofs.YtkjnafecmjakcaaGreatDoor
namespace Go.Proofs.YtkjnafecmjakcaaGreatDoor
open Go Go.RowKit Go.Eng
set_option maxRecDepth 10000
set_option linter.unusedVariables false
set_option linter.unusedSimpArgs false
section
variable {F:Nat} {S:Af} {V:Ae} {d:sift_scan} {p:sift_Node} {key:ByteArray}
theorem Vq (h1:Cl F p=some key) {l:List Int} (h2:lkM d.tests key=some l):B2 F S V d p=some (l,d):=by
 unfold B2;rw [h1,sbd,Bp (by rw [h2];rfl),h2];rfl
theorem Uj (h1:Cl F p=some key) {l:List sift_val} (h2:lkM d.values key=some l):Bg F S V d p=some (l,d):=by
 unfold Bg;rw [h1,sbd,Bp (by rw [h2];rfl),h2];rfl
theorem Z7 (h1:Cl F p=some key) (h2:lkM d.tests key=none) (hop:p.Op=1∨p.Op=2) {l:List Int} (h:Eb F (some d) p=some l) :
  B2 F S V d p=some (l,⟨d.s,d.n,upM d.tests key l,d.values⟩):=by
 unfold B2;rw [h1,sbd,Ar (by rw [h2];rfl),h,sbd];rcases hop with e|e<;>simp only [e]<;>rfl
theorem A2b (h1:Cl F p=some key) (h2:lkM d.tests key=none) (hop:p.Op=3) {l:List Int} {d':sift_scan} (h:H8 F S V d p=some (l,d')) :
  B2 F S V d p=some (l,⟨d.s,d.n,upM d'.tests key l,d'.values⟩):=by
 unfold B2;rw [h1,sbd,Ar (by rw [h2];rfl),h,sbd];simp only [hop];rfl
theorem A0z (h1:Cl F p=some key) (h2:lkM d.tests key=none) (hop:p.Op=4∨p.Op=5) {l:List Int} {d':sift_scan} (h:Ez F S V d p=some (l,d')) :
  B2 F S V d p=some (l,⟨d.s,d.n,upM d'.tests key l,d'.values⟩):=by
 unfold B2;rw [h1,sbd,Ar (by rw [h2];rfl),h,sbd];rcases hop with e|e<;>simp only [e]<;>rfl
theorem A10 (h1:Cl F p=some key) (h2:lkM d.tests key=none) (hop:p.Op=6∨p.Op=7) {l:List Int} {d':sift_scan} (h:F1 F S V d p=some (l,d')) :
  B2 F S V d p=some (l,⟨d.s,d.n,upM d'.tests key l,d'.values⟩):=by
 unfold B2;rw [h1,sbd,Ar (by rw [h2];rfl),h,sbd];rcases hop with e|e<;>simp only [e]<;>rfl
theorem A2a (h1:Cl F p=some key) (h2:lkM d.tests key=none) (hop:8≤p.Op∧p.Op≤13) {l:List Int} {d':sift_scan} (h:Bn F S V d p=some (l,d')) :
  B2 F S V d p=some (l,⟨d.s,d.n,upM d'.tests key l,d'.values⟩):=by
 have hop:p.Op=8∨p.Op=9∨p.Op=10∨p.Op=11∨p.Op=12∨p.Op=13:=by omega
 unfold B2;rw [h1,sbd,Ar (by rw [h2];rfl),h,sbd];rcases hop with e|e|e|e|e|e<;>simp only [e]<;>rfl
theorem Yc (h1:Cl F p=some key) (h2:lkM d.values key=none) (hop:p.Op=25) {l:List sift_val} {d':sift_scan} (h:Ft F S V d p=some (l,d')) :
  Bg F S V d p=some (l,⟨d.s,d.n,d'.tests,upM d'.values key l⟩):=by
 unfold Bg;rw [h1,sbd,Ar (by rw [h2];rfl),h,sbd,Bp (eqT hop)]
theorem A12 (h1:Cl F p=some key) (h2:lkM d.values key=none) (hop:p.Op=26∨p.Op=27) {l:List sift_val} {d':sift_scan} (h:Ga F S V d p=some (l,d')) :
  Bg F S V d p=some (l,⟨d.s,d.n,d'.tests,upM d'.values key l⟩):=by
 unfold Bg;rw [h1,sbd,Ar (by rw [h2];rfl),h,sbd];rcases hop with e|e
 ·rw [Ar (eqF (by omega)),Bp (eqT e),Bp (eqT e)]
 ·rw [Ar (eqF (by omega)),Ar (eqF (by omega)),Bp (eqT e)]
theorem Yd (h1:Cl F p=some key) (h2:lkM d.values key=none) (hop:p.Op<25) {l:List sift_val} (h:E9 F (some d) p=some l) :
  Bg F S V d p=some (l,⟨d.s,d.n,d.tests,upM d.values key l⟩):=by
 unfold Bg;rw [h1,sbd,Ar (by rw [h2];rfl),h,sbd,Ar (eqF (by omega)),Ar (eqF (by omega)),Ar (eqF (by omega))]
end
theorem Z6 (F:Nat):F2 (F+1)=B2 F (F2 F) (Ed F):=rfl
theorem Xb (F:Nat):Ed (F+1)=Bg F (F2 F) (Ed F):=rfl
theorem A3d {s:api_Sweep} {R m:Nat} (h:Swp s R m):∀(t:T) (F:Nat) (d:sift_scan),t.size+2500≤F→t.size≤1000→Inv s (R*m) d →
  (okT true t→∃d',F2 F d t.node=some (tab (R*m) fun k=>(t.sem s k).1,d')∧Inv s (R*m) d') ∧
  (okT false t→∃d',Ed F d t.node=some (tab (R*m) fun k=>(t.sem s k).2,d')∧Inv s (R*m) d'):=by
 have hN:=h.N1;intro t
 induction t with
 | leaf op v =>
  intro F d hF hs hd;obtain ⟨F,rfl⟩:∃G,F=G+1:=⟨F-1,by omega⟩;simp only [T.size] at hF hs;rw [Z6,Xb];constructor
  ·intro ht;have hx:=Sb _ true F ht (by simp only [T.size];omega) (by simp only [T.size];omega)
   cases hl:lkM d.tests (tb (textT (.leaf op v))) with
   | some l=>exact ⟨d,by rw [Vq hx hl,hd.ht _ l ht hl],hd⟩
   | none =>
    have hop:op=1∨op=2:=by simp only [okT] at ht;omega
    exact ⟨_,Z7 hx hl hop (A2c hd hN (by omega) hop),hd.upT ht⟩
  ·intro ht;have hx:=Sb _ false F ht (by simp only [T.size];omega) (by simp only [T.size];omega)
   cases hl:lkM d.values (tb (textT (.leaf op v))) with
   | some l=>exact ⟨d,by rw [Uj hx hl,hd.hv _ l ht hl],hd⟩
   | none =>
    have hop:op<25:=by simp only [okT] at ht;omega
    exact ⟨_,Yd hx hl hop (A0c h hd (by omega)),hd.upV ht⟩
 | un op r g a ih =>
  intro F d hF hs hd;obtain ⟨F,rfl⟩:∃G,F=G+1:=⟨F-1,by omega⟩;simp only [T.size] at hF hs;rw [Z6,Xb];constructor
  ·intro ht;have hx:=Sb _ true F ht (by simp only [T.size];omega) (by simp only [T.size];omega)
   cases hl:lkM d.tests (tb (textT (.un op r g a))) with
   | some l=>exact ⟨d,by rw [Vq hx hl,hd.ht _ l ht hl],hd⟩
   | none =>
    have ho:=ht;simp only [okT] at ho;obtain ⟨d',h1,h2⟩:=(ih F d (by omega) (by omega) hd).1 ho.2;rcases ho.1 with o|o
    ·refine ⟨_,(A2b hx hl o.1 (A4q hd hN (by omega) rfl h1 h2 (A3f s a ho.2))).trans ?_,h2.upT ht⟩;simp only [T.sem,if_pos o.1,hd.hs,hd.hn,h2.hs,h2.hn]
    ·refine ⟨_,(A10 hx hl o.1 (A1r h hd (by omega) rfl o.1 ⟨o.2.1,o.2.2.1⟩ o.2.2.2 h1 h2)).trans ?_,h2.upT ht⟩;simp only [T.sem,if_neg (show op≠3 by omega),hd.hs,hd.hn,h2.hs,h2.hn];rfl
  ·intro ht;have hx:=Sb _ false F ht (by simp only [T.size];omega) (by simp only [T.size];omega)
   cases hl:lkM d.values (tb (textT (.un op r g a))) with
   | some l=>exact ⟨d,by rw [Uj hx hl,hd.hv _ l ht hl],hd⟩
   | none =>
    have ho:=ht;simp only [okT] at ho;obtain ⟨d',h1,h2⟩:=(ih F d (by omega) (by omega) hd).1 ho.2;refine ⟨_,(Yc hx hl ho.1.1 (A09 h hd (by omega) rfl ⟨ho.1.2.1,ho.1.2.2.1⟩ ⟨ho.1.2.2.2.1,ho.1.2.2.2.2⟩ h1 h2)).trans ?_,h2.upV ht⟩;simp only [T.sem,hd.hs,hd.hn,h2.hs,h2.hn];rfl
 | bin op a b iha ihb =>
  intro F d hF hs hd;obtain ⟨F,rfl⟩:∃G,F=G+1:=⟨F-1,by omega⟩;simp only [T.size] at hF hs;rw [Z6,Xb];constructor
  ·intro ht;have hx:=Sb _ true F ht (by simp only [T.size];omega) (by simp only [T.size];omega)
   cases hl:lkM d.tests (tb (textT (.bin op a b))) with
   | some l=>exact ⟨d,by rw [Vq hx hl,hd.ht _ l ht hl],hd⟩
   | none =>
    have ho:=ht;simp only [okT] at ho;rcases ho with o|o
    ·obtain ⟨d1,h1,h2⟩:=(iha F d (by omega) (by omega) hd).1 o.2.1;obtain ⟨d2,h3,h4⟩:=(ihb F d1 (by omega) (by omega) h2).1 o.2.2;refine ⟨_,(A0z hx hl o.1 (A2i hd hN (by omega) rfl h1 h2 h3 h4)).trans ?_,h4.upT ht⟩;have e:(fun k=>if (T.bin op a b).node.Op=4 then mx (a.sem s k).1 (b.sem s k).1 else mn (a.sem s k).1 (b.sem s k).1)=fun k=>((T.bin op a b).sem s k).1:=by
      funext k
      simp only [T.sem,T.node]
      by_cases h4:op=4
      ·simp only [if_pos h4];exact if_pos h4
      ·simp only [if_neg h4,if_pos (show op=5 by omega)];exact if_neg h4
     rw [e,hd.hs,hd.hn,h4.hs,h4.hn]
    ·obtain ⟨d1,h1,h2⟩:=(iha F d (by omega) (by omega) hd).2 o.2.2.1;obtain ⟨d2,h3,h4⟩:=(ihb F d1 (by omega) (by omega) h2).2 o.2.2.2;refine ⟨_,(A2a hx hl ⟨o.1,o.2.1⟩ (A2k h hd (by omega) rfl ⟨o.1,o.2.1⟩ h1 h2 h3 h4)).trans ?_,h4.upT ht⟩;simp only [T.sem,if_neg (show op≠4 by omega),if_neg (show op≠5 by omega),hd.hs,hd.hn,h4.hs,h4.hn];rfl
  ·intro ht;have hx:=Sb _ false F ht (by simp only [T.size];omega) (by simp only [T.size];omega)
   cases hl:lkM d.values (tb (textT (.bin op a b))) with
   | some l=>exact ⟨d,by rw [Uj hx hl,hd.hv _ l ht hl],hd⟩
   | none =>
    have ho:=ht;simp only [okT] at ho;obtain ⟨d1,h1,h2⟩:=(iha F d (by omega) (by omega) hd).2 ho.2.1;obtain ⟨d2,h3,h4⟩:=(ihb F d1 (by omega) (by omega) h2).2 ho.2.2.1;refine ⟨_,(A12 hx hl ho.1 (A3j h hd (by omega) rfl h1 h2 h3 h4 (A25 h a ho.2.1) (A25 h b ho.2.2.1) (by omega))).trans ?_,h4.upV ht⟩;simp only [T.sem,hd.hs,hd.hn,h4.hs,h4.hn];rfl
end Go.Proofs.YtkjnafecmjakcaaGreatDoor
namespace Go.Proofs.YtkjnafecmjakcaaGreatDoor
open Go Go.RowKit Go.Eng
set_option maxRecDepth 10000
set_option linter.unusedVariables false
set_option linter.unusedSimpArgs false
structure GoodR (L:List (ByteArray×T)):Prop where
 len:L.length≤32
 size:(L.map (·.2.size)).sum≤300
 names:∀p∈L,∀F,30≤F→beam_Name F p.1=some true∧sift_word F p.1=some false
 distinct:∀(i j:Nat) (p q:ByteArray×T),L[i]? = some p→L[j]? = some q→i<j→p.1≠q.1
 trees:∀p∈L,okT true p.2∧p.2.depth≤12
section
variable {s:api_Sweep} {R m:Nat} {fs:List (Int→Int)}
end
end Go.Proofs.YtkjnafecmjakcaaGreatDoor
namespace Go.Proofs.YtkjnafecmjakcaaGreatDoor
open Go Go.RowKit Go.Eng
set_option maxRecDepth 10000
set_option linter.unusedVariables false
set_option linter.unusedSimpArgs false
def byts (l:List Int):Prop:=∀x∈l,0≤x∧x<256
def T.noRay:T→Prop
 | .leaf op _=>op≠22
 | .un _ _ _ a=>a.noRay
 | .bin _ a b=>a.noRay∧b.noRay
theorem Pa {p:List Int} (hp:byts p) (F:Nat) {n:Int} (hn:1≤n):∃x p',Bq F p n=some (x,p')∧0≤x∧x<n∧byts p':=by
 unfold Bq
 cases p with
 | nil=>exact ⟨0,[],rfl,by omega,by omega,hp⟩
 | cons a l =>
  have ha:=hp a (by simp);refine ⟨a%n,l,?_,Int.emod_nonneg _ (by omega),Int.emod_lt_of_pos _ (by omega),fun x hx=>hp x (by simp [hx])⟩;rw [Ar (eqF (by simp;omega)),Vu,ckb (by omega),Tw ha.1 hn];unfold Tf;rw [if_pos (by simp only [List.length_cons];omega)];simp
theorem Pg (n:sift_Node):sift_Node.mk n.Op n.Value_ n.Rays n.Gates n.Args=n:=by cases n;rfl
structure Mean (k ray:Bool) (d:Nat) (t:T):Prop where
 ok:okT k t
 size:t.size+1≤2 ^ d
 depth:t.depth≤d
 one:d=1→t.op<26
 ray:ray=false→t.noRay
theorem A20 {d:Nat} (h:1≤d):2≤2 ^ d:=Nat.pow_le_pow_right (n:=2) (i:=1) (by omega) h
theorem A37 (ray:Bool):∀(d F:Nat) (p:List Int),byts p→d+1≤F→d≤100 →
  (2≤d→∃t p',Cb F p d ray=some (t.node,p')∧Mean true ray d t∧byts p') ∧
  (1≤d→∃t p',Bk F p d ray=some (t.node,p')∧Mean false ray d t∧byts p'):=by
 intro d
 induction d using Nat.strongRecOn with
 | _ d ih =>
  intro F p hp hF hd;obtain ⟨F,rfl⟩:∃G,F=G+1:=⟨F-1,by omega⟩;constructor
  ·intro h2;obtain ⟨e,rfl⟩:∃e,d=e+1:=⟨d-1,by omega⟩;have hpw:2 ^ (e+1)=2 ^ e+2 ^ e:=by rw [Nat.pow_succ];omega
   have hp2:=A20 (d:=e) (by omega);have k1:∀(l:List Int) (x:Int),byts l→1≤x∧x≤13→(e+1<3→8≤x)→∃t p',Bw F (Cb F) (Bk F) (e+1:Nat) ray l x=some (t.node,p')∧Mean true ray (e+1) t∧byts p':=by
    intro l x hl hx hx3;unfold Bw;have hdm:((e+1:Nat):Int)-1=(e:Int):=by omega
    rw [hdm,ckb (by omega),ckb (by omega),ckb (by omega)]
    by_cases c1:x≤2
    ·rw [Bp (dT c1)];exact ⟨.leaf x 0,l,rfl,⟨by show (x=1∨x=2)∧(0:Int)=0;omega,by simp only [T.size];omega,by simp only [T.depth];omega,by omega,fun _=>by simp only [T.noRay];omega⟩,hl⟩
    rw [Ar (dF c1)]
    by_cases c2:x=3
    ·obtain ⟨t,p',q1,q2,q3⟩:=(ih e (by omega) F l hl (by omega) (by omega)).1 (by omega);rw [Bp (eqT c2),q1,sbd];exact ⟨.un x 0 0 t,p',by dsimp only;rw [Pg];rfl,⟨by simp only [okT];exact ⟨.inl ⟨c2,trivial,trivial⟩,q2.ok⟩,by have:=q2.size;simp only [T.size];omega,by have:=q2.depth;simp only [T.depth];omega,by omega,fun hr=>q2.ray hr⟩,q3⟩
    rw [Ar (eqF c2)]
    by_cases c3:x≤5
    ·obtain ⟨t,p',q1,q2,q3⟩:=(ih e (by omega) F l hl (by omega) (by omega)).1 (by omega);obtain ⟨t2,p2,r1,r2,r3⟩:=(ih e (by omega) F p' q3 (by omega) (by omega)).1 (by omega);rw [Bp (dT c3),q1,sbd,ckb (by omega)];dsimp only;rw [r1,sbd];exact ⟨.bin x t t2,p2,by dsimp only;rw [Pg,Pg];rfl,⟨by simp only [okT];exact .inl ⟨by omega,q2.ok,r2.ok⟩,by have:=q2.size;have:=r2.size;simp only [T.size];omega,by have:=q2.depth;have:=r2.depth;simp only [T.depth];omega,by omega,fun hr=>⟨q2.ray hr,r2.ray hr⟩⟩,r3⟩
    rw [Ar (dF c3)]
    by_cases c4:x≤7
    ·obtain ⟨a,pa,a1,a2,a3,a4⟩:=Pa hl F (n:=3) (by omega);obtain ⟨b,pb,b1,b2,b3,b4⟩:=Pa a4 F (n:=3) (by omega);obtain ⟨t,p',q1,q2,q3⟩:=(ih e (by omega) F pb b4 (by omega) (by omega)).1 (by omega);rw [Bp (dT c4),a1,sbd];dsimp only;rw [b1,sbd,ckb (by omega)];dsimp only;rw [q1,sbd];exact ⟨.un x a b t,p',by dsimp only;rw [Pg];rfl,⟨by simp only [okT];exact ⟨.inr ⟨by omega,by omega,by omega,by omega,by omega⟩,q2.ok⟩,by have:=q2.size;simp only [T.size];omega,by have:=q2.depth;simp only [T.depth];omega,by omega,fun hr=>q2.ray hr⟩,q3⟩
    rw [Ar (dF c4)];obtain ⟨t,p',q1,q2,q3⟩:=(ih e (by omega) F l hl (by omega) (by omega)).2 (by omega);obtain ⟨t2,p2,r1,r2,r3⟩:=(ih e (by omega) F p' q3 (by omega) (by omega)).2 (by omega);rw [q1,sbd,ckb (by omega)];dsimp only;rw [r1,sbd];exact ⟨.bin x t t2,p2,by dsimp only;rw [Pg,Pg];rfl,⟨by simp only [okT];exact .inr ⟨by omega,by omega,q2.ok,r2.ok⟩,by have:=q2.size;have:=r2.size;simp only [T.size];omega,by have:=q2.depth;have:=r2.depth;simp only [T.depth];omega,by omega,fun hr=>⟨q2.ray hr,r2.ray hr⟩⟩,r3⟩
   show ∃t p',D2 F (Cb F) (Bk F) p (e+1:Nat) ray=_∧_;unfold D2;obtain ⟨a,pa,a1,a2,a3,a4⟩:=Pa hp F (n:=13) (by omega);rw [a1,sbd,ckb (by omega)];dsimp only
   by_cases c:((e+1:Nat):Int)<3∧1+a<8
   ·obtain ⟨b,pb,b1,b2,b3,b4⟩:=Pa a4 F (n:=6) (by omega);rw [Bp (by rw [dT c.1,dT c.2];rfl),b1,sbd,ckb (by omega)];exact k1 pb _ b4 (by omega) (by omega)
   ·rw [Ar (by rw [←Bool.not_eq_true];intro hc;exact c (A5a.1 hc))];exact k1 pa _ a4 (by omega) (by omega)
  ·intro h1;obtain ⟨e,rfl⟩:∃e,d=e+1:=⟨d-1,by omega⟩;have hpw:2 ^ (e+1)=2 ^ e+2 ^ e:=by rw [Nat.pow_succ];omega
   have hpos:1≤2 ^ e:=Nat.one_le_two_pow;have hdm:((e+1:Nat):Int)-1=(e:Int):=by omega
   show ∃t p',F4 F (Cb F) (Bk F) p (e+1:Nat) ray=_∧_;have k1:∀(y:Int×List Int) (x:Int),byts y.2→14≤x∧x≤27→(e+1<2→x<25)→(e+1<4→x≠25)→(ray=false→x≠22)→∃t p',Bs F (Cb F) (Bk F) (e+1:Nat) ray y x=some (t.node,p')∧Mean false ray (e+1) t∧byts p':=by
    intro y x hl hx hx2 hx4 hxr;unfold Bs
    by_cases c1:x=14
    ·obtain ⟨b,pb,b1,b2,b3,b4⟩:=Pa hl F (n:=256) (by omega);rw [Bp (eqT c1),b1,sbd];exact ⟨.leaf x b,pb,rfl,⟨by simp only [okT];omega,by simp only [T.size];omega,by simp only [T.depth];omega,fun _=>by simp only [T.op];omega,fun _=>by simp only [T.noRay];omega⟩,b4⟩
    rw [Ar (eqF c1)]
    by_cases c2:x=25
    ·obtain ⟨a,pa,a1,a2,a3,a4⟩:=Pa hl F (n:=3) (by omega);obtain ⟨b,pb,b1,b2,b3,b4⟩:=Pa a4 F (n:=3) (by omega);obtain ⟨t,p',q1,q2,q3⟩:=(ih e (by omega) F pb b4 (by omega) (by omega)).1 (by omega);rw [Bp (eqT c2),a1,sbd];dsimp only;rw [b1,sbd,hdm,ckb (by omega)];dsimp only;rw [q1,sbd];exact ⟨.un x a b t,p',by dsimp only;rw [Pg];rfl,⟨by simp only [okT];exact ⟨⟨c2,by omega,by omega,by omega,by omega⟩,q2.ok⟩,by have:=q2.size;simp only [T.size];omega,by have:=q2.depth;simp only [T.depth];omega,fun _=>by simp only [T.op];omega,fun hr=>q2.ray hr⟩,q3⟩
    rw [Ar (eqF c2)];have k2:∀c:Bool,(c=true↔x=26∨x=27)→∃t p',Cq (Bk F) (e+1:Nat) ray y x c=some (t.node,p')∧Mean false ray (e+1) t∧byts p':=by
     intro c hc;unfold Cq
     by_cases c3:x=26∨x=27
     ·have he:1≤e:=by omega
      have hp2:=A20 he;obtain ⟨t2,p2,r1,r2,r3⟩:=(ih 1 (by omega) F y.2 hl (by omega) (by omega)).2 (by omega);obtain ⟨t,p',q1,q2,q3⟩:=(ih e (by omega) F p2 r3 (by omega) (by omega)).2 he;rw [Bp (hc.2 c3),show Bk F y.2 1 ray=_ from r1,sbd,hdm,ckb (by omega)];dsimp only;rw [q1,sbd];exact ⟨.bin x t t2,p',by dsimp only;rw [Pg,Pg];rfl,⟨by simp only [okT];exact ⟨c3,q2.ok,r2.ok,r2.one rfl⟩,by have:=q2.size;have:=r2.size;simp only [T.size];omega,by have:=q2.depth;have:=r2.depth;simp only [T.depth];omega,by omega,fun hr=>⟨q2.ray hr,r2.ray hr⟩⟩,q3⟩
     ·rw [Ar (by rw [←Bool.not_eq_true];intro h;exact c3 (hc.1 h))];exact ⟨.leaf x 0,y.2,rfl,⟨by show (x=14∧(0:Int)≤0∧(0:Int)≤1000000000)∨(15≤x∧x≤24∧(0:Int)=0);omega,by simp only [T.size];omega,by simp only [T.depth];omega,fun _=>by simp only [T.op];omega,fun hr=>hxr hr⟩,hl⟩
    by_cases c3:x=26
    ·rw [Bp (eqT c3)];exact k2 _ (by rw [beq_iff_eq];omega)
    ·rw [Ar (eqF c3)];exact k2 _ (by rw [beq_iff_eq];omega)
   unfold F4;obtain ⟨a,pa,a1,a2,a3,a4⟩:=Pa hp F (n:=14) (by omega);rw [a1,sbd,ckb (by omega)];dsimp only;have key:∀c:Bool,(c=true→True)→(c=false→(e+1<2→14+a<25)∧(e+1<4→14+a≠25)∧(ray=false→14+a≠22))→∃t p',(bif c then Bs F (Cb F) (Bk F) (e+1:Nat) ray (a,pa) 14 else Bs F (Cb F) (Bk F) (e+1:Nat) ray (a,pa) (14+a))=some (t.node,p')∧Mean false ray (e+1) t∧byts p':=by
    intro c _ hc
    cases c
    ·obtain ⟨z1,z2,z3⟩:=hc rfl;exact k1 (a,pa) (14+a) a4 (by omega) z1 z2 z3
    ·exact k1 (a,pa) 14 a4 (by omega) (by omega) (by omega) (by omega)
   refine key _ (fun _=>trivial) fun hc=>?_;have o1:∀{x y:Bool},(bif x then true else y)=false→x=false∧y=false:=by intro x y;cases x<;>cases y<;>simp
   obtain ⟨h1,h2⟩:=o1 hc;obtain ⟨h3,h4⟩:=o1 h1;refine ⟨fun hx=>?_,fun hx=>?_,fun hx=>?_⟩
   ·rw [Bp (dT (by omega))] at h4;have:=of_decide_eq_false h4;omega
   ·rw [Bp (dT (by omega))] at h2;intro e;rw [eqT e] at h2;cases h2
   ·subst hx;intro e;rw [eqT e] at h3;cases h3
end Go.Proofs.YtkjnafecmjakcaaGreatDoor
namespace Go.Proofs.YtkjnafecmjakcaaGreatDoor
open Go Go.RowKit Go.Eng
set_option maxRecDepth 10000
set_option linter.unusedVariables false
set_option linter.unusedSimpArgs false
def nms:List ByteArray:=[(⟨#[97]⟩:ByteArray),(⟨#[98,49]⟩:ByteArray),(⟨#[99,95]⟩:ByteArray),(⟨#[100,100,100,100,100,100,100,100,100,100,100,100]⟩:ByteArray)]
structure MeanR (ray:Bool) (L:List (ByteArray×T)):Prop where
 len:L.length≤4
 names:∀(i:Nat) p,L[i]? = some p→nms[i]? = some p.1
 trees:∀p∈L,Mean true ray 5 p.2
theorem A69:∀p∈nms,∀F,30≤F→beam_Name F p=some true∧sift_word F p=some false:=by
 intro p hp F hF;obtain ⟨F,rfl⟩:∃G,F=G+30:=⟨F-30,by omega⟩;simp only [nms,List.mem_cons,List.not_mem_nil,or_false] at hp;rcases hp with rfl|rfl|rfl|rfl<;>exact ⟨rfl,rfl⟩
def inS (x:api_Span) (lo hi:Int):Prop:=lo≤x.Lo∧x.Lo≤x.Hi∧x.Hi≤hi
def trS (x:api_Span):Prop:=-32768≤x.Lo∧x.Lo≤x.Hi∧x.Hi≤32767
def zS (x:api_Span):Prop:=x.Lo=0∧x.Hi=0
def okE (e:api_Echo):Prop :=
 (e.Kind=1∧inS e.Power 0 1073741824∧e.Power.Lo=0∧zS e.Steps.1∧zS e.Steps.2∧e.Spread=0∧zS e.Ratio∧zS e.Match∧zS e.Turn) ∨
 ((e.Kind=2∨e.Kind=3)∧inS e.Power 0 1073741824∧0<e.Power.Lo∧inS e.Ratio 0 1000000∧inS e.Match 0 1000∧0≤e.Spread∧e.Spread≤65535 ∧
  (e.Kind=2→zS e.Steps.1∧zS e.Steps.2∧zS e.Turn)∧(e.Kind=3→trS e.Steps.1∧trS e.Steps.2∧trS e.Turn))
theorem okE.bd {e:api_Echo} (h:okE e):bdE e:=by
 unfold okE inS trS zS at h;unfold bdE bdS;omega
theorem Sp {x:api_Span} {lo hi:Int} (h:inS x lo hi):Ai x lo hi=true:=by
 unfold Ai;rw [dT h.1,dT h.2.1,Bp rfl,Bp rfl,dT h.2.2]
theorem Ry {x lo hi:Int} (h:lo≤x∧x≤hi):At x lo hi=true:=by
 unfold At;rw [dT h.1,Bp rfl,dT h.2]
theorem A59 {x:api_Span} (h:zS x):(((x.Lo:Int)==0)&&(((x.Hi:Int)==0)&&true))=true:=by rw [h.1,h.2];rfl
theorem A3n {l:List api_Span} (hl:l.length≤10) (h:∀x∈l,trS x) {F:Nat}:∀(n j:Nat),l.length+1≤n+j→j≤l.length→Fw l n j=some true:=by
 intro n
 induction n with
 | zero=>intro j h1 h2;omega
 | succ n ih =>
  intro j h1 h2;show Ha l _ j=_;unfold Ha
  by_cases hj:j<l.length
  ·obtain ⟨t1,t3,t4⟩:=h _ (List.getElem_mem hj);rw [Bp (dT (by omega)),Mm j _ rfl (List.getElem?_eq_getElem hj),Ry ⟨t1,by omega⟩,gdT (g:=(!true)==false&&true) rfl,ckb (by omega),gdT (g:=(!true)==false&&true) rfl,ckb (by omega),Ry ⟨t3,by omega⟩,Ar (c:=bif !true then true else !true) rfl,ckb (by omega)];exact ih (j+1) (by omega) (by omega)
  ·rw [Ar (dF (by omega))];rfl
theorem A2p {e:api_Echo} (h:okE e) {F:Nat} (hF:10≤F):Gh F e=some 0:=by
 unfold Gh;rcases h with ⟨h1,h2,h3,h4,h5,h6,h7,h8,h9⟩|⟨h1,h2,h3,h4,h5,h6,h7,h8,h9⟩
 ·rw [Bp (eqT h1),Bp (Sp h2)];simp only [h1,h3,h4.1,h4.2,h5.1,h5.2,h6,h7.1,h7.2,h8.1,h8.2,h9.1,h9.2];rw [eqT (a:=e.Power.Hi) rfl];rfl
 ·rw [Ar (eqF (by omega))];unfold Gb
  by_cases c:e.Kind=2
  ·obtain ⟨z1,z2,z3⟩:=h8 c;rw [Bp (eqT c),eqT c,Bp rfl,Bp rfl,Sp h2,dT h3,Sp h4,Sp h5,Ry ⟨h6,h7⟩,A59 z1,A59 z2,A59 z3];rfl
  ·obtain ⟨z1,z2,z3⟩:=h9 (by omega);rw [Ar (eqF c),eqT (show e.Kind=3 by omega),Bp rfl,Ar (eqF c),Sp h2,dT h3,Sp h4,Sp h5,Ry ⟨h6,h7⟩];unfold Ma;rw [Bp rfl,show Fw [⟨e.Steps.1.Lo,e.Steps.1.Hi⟩,⟨e.Steps.2.Lo,e.Steps.2.Hi⟩,e.Turn] F 0=some true from A3n (F:=0) (by simp) (by
    intro x hx;simp only [List.mem_cons,List.not_mem_nil,or_false] at hx;rcases hx with rfl|rfl|rfl
    ·exact z1
    ·exact z2
    ·exact z3) F 0 (by simp;omega) (by simp)]
   rfl
structure Okw (s:api_Sweep) (r m:Nat):Prop where
 site:s.Site=⟨⟨#[115]⟩,0,0,0,r,m,500,0⟩
 r1:1≤r∧r≤3
 m1:1≤m∧m≤4
 time:s.Time=0
 tilt:0≤s.Tilt∧s.Tilt≤255
 len:s.Rays.length=4*r
 rows:∀l∈s.Rays,l.length=m∧∀e∈l,okE e
theorem Okw.swp {s:api_Sweep} {r m:Nat} (h:Okw s r m):Swp s (4*r) m:=by
 have h1:=h.r1;have h2:=h.m1;have h3:=h.tilt;refine ⟨h.len,by rw [h.site],by omega,by omega,?_,fun l hl=>(h.rows l hl).1,fun l hl e he=>((h.rows l hl).2 e he).bd,by omega⟩;have:=Nat.mul_le_mul (show 4*r≤12 by omega) h2.2;omega
theorem Okw.check {s:api_Sweep} {r m:Nat} (h:Okw s r m) {F:Nat} (hF:50≤F):D7 F s=some 0:=by
 have h1:=h.r1;have h2:=h.m1;have h3:=h.tilt;have l5:∀(row:List api_Echo),row∈s.Rays→∀(x:Int) (k:Int→Option Int) (n j:Nat),m+1≤n+j→j≤m→0≤x∧x≤100→E0 F x k row n j=k (x+1):=by
  intro row hrow x k n;obtain ⟨e1,e2⟩:=h.rows row hrow
  induction n with
  | zero=>intro j h1 h2;omega
  | succ n ih =>
   intro j h1 h2 hx;show F8 F x k row _ j=_;unfold F8
   by_cases hj:j<row.length
   ·rw [Bp (dT (by omega)),Mm j _ rfl (List.getElem?_eq_getElem hj),show Gh F _=some 0 from A2p (e2 _ (List.getElem_mem hj)) (by omega),sbd,Ar (neF rfl),ckb (by omega)];exact ih (j+1) (by omega) (by omega) hx
   ·rw [Ar (dF (by omega))];unfold Gw;rw [ckb (by omega)]
 have l3:∀(n j:Nat),s.Rays.length+1≤n+j→j≤s.Rays.length→Fa F s n j=some 0:=by
  intro n
  induction n with
  | zero=>intro j h1 h2;omega
  | succ n ih =>
   intro j h4 h5;have hl:=h.len;show F7 F s _ j=_;unfold F7
   by_cases hj:j<s.Rays.length
   ·rw [Bp (dT (by omega)),Mm j _ rfl (List.getElem?_eq_getElem hj),show E0 F j _ _ F 0=_ from l5 _ (List.getElem_mem hj) j _ F 0 (by omega) (by omega) (by omega)];exact ih (j+1) (by omega) (by omega)
   ·rw [Ar (dF (by omega))];rfl
 have l6:∀(n j:Nat),s.Rays.length+1≤n+j→j≤s.Rays.length→Fb F s n j=some 0:=by
  intro n
  induction n with
  | zero=>intro j h1 h2;omega
  | succ n ih =>
   intro j h4 h5;have hl:=h.len;show F9 F s _ j=_;unfold F9
   by_cases hj:j<s.Rays.length
   ·rw [Bp (dT (by omega)),Mm j _ rfl (List.getElem?_eq_getElem hj),Ar (neF (by rw [(h.rows _ (List.getElem_mem hj)).1,h.site])),ckb (by omega)];exact ih (j+1) (by omega) (by omega)
   ·rw [Ar (dF (by omega))];exact l3 F 0 (by omega) (by omega)
 have hsite:Jn F s.Site=some 0:=by
  have e1:Av (r:Int) 1 90=true:=Ry ⟨by omega,by omega⟩;have e2:Av (m:Int) 1 200=true:=Ry ⟨by omega,by omega⟩;rw [h.site];unfold Jn;rw [show beam_Name F (⟨#[115]⟩:ByteArray)=some true from rfl,sbd,Ar (c:=!true) rfl];unfold Et;dsimp only;rw [e1,e2];rfl
 unfold D7;rw [hsite,sbd,Ar (neF rfl),Ry (x:=s.Tilt) ⟨h3.1,by omega⟩,Ry (x:=s.Time) (by rw [h.time];omega),Ar (c:=bif !true then true else !true) rfl,h.site];dsimp only;rw [ckb (by omega),Ar (neF (by rw [h.len];omega))];exact l6 F 0 (by have:=h.len;omega) (by omega)
end Go.Proofs.YtkjnafecmjakcaaGreatDoor
namespace Go.Proofs.YtkjnafecmjakcaaGreatDoor
open Go Go.RowKit Go.Eng
set_option maxRecDepth 10000
set_option linter.unusedVariables false
set_option linter.unusedSimpArgs false
theorem Lz {l:List Int} (hl:byts l) (F:Nat) {i n:Int} (hi:0≤i) (hn:1≤n):∃x,Da F l i n=some x∧0≤x∧x<n:=by
 unfold Da
 by_cases h:l.length=0
 ·exact ⟨0,by rw [Bp (eqT (by omega))],by omega,by omega⟩
 ·have h1:0≤i%(l.length:Int)∧i%(l.length:Int)<(l.length:Int):=⟨Int.emod_nonneg _ (by omega),Int.emod_lt_of_pos _ (by omega)⟩;have h2:(i%(l.length:Int)).toNat<l.length:=by omega
  have hb:=hl _ (List.getElem_mem h2);refine ⟨l[(i%(l.length:Int)).toNat]%n,?_,Int.emod_nonneg _ (by omega),Int.emod_lt_of_pos _ (by omega)⟩;rw [Ar (eqF (by omega)),Tw hi (by omega),Mm (i%(l.length:Int)).toNat _ (by omega) (List.getElem?_eq_getElem h2),ckb (by omega),Tw hb.1 hn]
structure AirIn (a:law04_Air):Prop where
 rose:0≤a.Rose∧a.Rose<256
 gates:0≤a.Gates∧a.Gates<256
 tilt:0≤a.Tilt∧a.Tilt<256
 kinds:byts a.Kinds
 low:byts a.Low
 wide:byts a.Wide
theorem Tt {a:law04_Air} (h:AirIn a) (F:Nat) {i k:Int} (hi:0≤i∧i≤10) (hk:0≤k∧k≤1000):∃x,Cc F i a k=some x∧0≤x.Lo∧x.Lo≤x.Hi∧x.Hi≤240:=by
 obtain ⟨x,h1,h2,h3⟩:=Lz h.low F (i:=k+i) (n:=200) (by omega) (by omega);obtain ⟨y,h4,h5,h6⟩:=Lz h.wide F (i:=k+2*i) (n:=40) (by omega) (by omega);refine ⟨⟨x,x+y⟩,?_,h2,by dsimp only;omega,by dsimp only;omega⟩;unfold Cc A7;rw [ckb (by omega),h1,sbd,ckb (by omega),ckb (by omega),h4,sbd,ckb (by omega)]
theorem A49 {a:law04_Air} (h:AirIn a) {F:Nat} (hF:50≤F):∃s,J5 F a=some s∧Okw s (1+a.Rose%3).toNat (1+a.Gates%4).toNat:=by
 have hr:0≤a.Rose%3∧a.Rose%3<3:=⟨Int.emod_nonneg _ (by omega),Int.emod_lt_of_pos _ (by omega)⟩;have hg:0≤a.Gates%4∧a.Gates%4<4:=⟨Int.emod_nonneg _ (by omega),Int.emod_lt_of_pos _ (by omega)⟩;have h1:=h.rose;have h2:=h.gates;have h3:=h.tilt;generalize hm:(1+a.Gates%4).toNat=m;have hm2:1+a.Gates%4=(m:Int):=by omega
 generalize hrr:(1+a.Rose%3).toNat=r;have hr2:1+a.Rose%3=(r:Int):=by omega
 have l5:∀(st:List (List api_Echo)) (b:Int) (k2:List (List api_Echo)→Int→Int→Option api_Sweep),st.length≤20→0≤b∧b≤20→∀(n j:Nat) (k:Int) (l:List api_Echo),m+1≤n+j→j≤m→0≤k∧k+(m-j)≤200→l.length=j→(∀e∈l,okE e) →
   ∃row,row.length=m∧(∀e∈row,okE e)∧Cn F a m st b k2 n k j l=k2 (st++[row]) (k+(m-j)) (b+1):=by
  intro st b k2 hst hb n
  induction n with
  | zero=>intro j k l h1 h2;omega
  | succ n ih =>
   intro j k l h4 h5 h6 h7 h8;show ∃row,_∧_∧Fz F a m st b k2 (Cn F a m st b k2 n) k j l=_;unfold Fz
   by_cases c:j<m
   ·have k6:∀kk p1 p2 p3 p4 p5 p6 p7 p8 p9 p10 p11,okE ⟨kk,⟨p1,p6⟩,(⟨p7,p8⟩,⟨0,0⟩),p9,⟨p10,p11⟩,⟨p2,p3⟩,⟨p4,p5⟩⟩→∃row,row.length=m∧(∀e∈row,okE e)∧Cz k j l (Cn F a m st b k2 n) kk p1 p2 p3 p4 p5 p6 p7 p8 p9 p10 p11=k2 (st++[row]) (k+(m-j)) (b+1):=by
     intro kk p1 p2 p3 p4 p5 p6 p7 p8 p9 p10 p11 hok;unfold Cz;rw [show apd 112 l [(⟨kk,⟨p1,p6⟩,(⟨p7,p8⟩,⟨0,0⟩),p9,⟨p10,p11⟩,⟨p2,p3⟩,⟨p4,p5⟩⟩:api_Echo)]=some _ by unfold apd;rw [if_pos (by simp;omega)],sbd,ckb (by omega),ckb (by omega)];obtain ⟨row,q1,q2,q3⟩:=ih (j+1) (k+1) (l++[(⟨kk,⟨p1,p6⟩,(⟨p7,p8⟩,⟨0,0⟩),p9,⟨p10,p11⟩,⟨p2,p3⟩,⟨p4,p5⟩⟩:api_Echo)]) (by omega) (by omega) (by omega) (by simp;omega) (by
      intro e he;rcases List.mem_append.1 he with he|he
      ·exact h8 e he
      ·rw [List.mem_singleton] at he;subst he;exact hok)
     exact ⟨row,q1,q2,by rw [show k+(m-j)=k+1+(m-((j+1:Nat):Int)) by omega];exact q3⟩
    obtain ⟨x,x1,x2,x3⟩:=Lz h.kinds F (i:=k) (n:=3) (by omega) (by omega);rw [Bp (dT (by omega)),x1,sbd,ckb (by omega)]
    by_cases c1:1+x=1
    ·obtain ⟨w,w1,w2,w3⟩:=Lz h.wide F (i:=k) (n:=40) (by omega) (by omega);rw [Bp (eqT c1),w1,sbd];refine k6 _ _ _ _ _ _ _ _ _ _ _ _ (.inl ?_);dsimp only [inS,zS,A7];omega
    ·obtain ⟨a0,b0,c0,d0,e0⟩:=Tt h F (i:=0) (k:=k) (by omega) (by omega);obtain ⟨a1,b1,c1',d1,e1⟩:=Tt h F (i:=1) (k:=k) (by omega) (by omega);obtain ⟨a2,b2,c2,d2,e2⟩:=Tt h F (i:=2) (k:=k) (by omega) (by omega);obtain ⟨a4,b4,c4,d4,e4⟩:=Tt h F (i:=4) (k:=k) (by omega) (by omega);obtain ⟨a5,b5,c5,d5,e5⟩:=Tt h F (i:=5) (k:=k) (by omega) (by omega);obtain ⟨w,w1,w2,w3⟩:=Lz h.low F (i:=k+3) (n:=200) (by omega) (by omega);rw [Ar (eqF c1),ckb (by omega),b0,sbd,b1,sbd,b2,sbd,w1,sbd,ckb (by omega),ckb (by omega)]
     by_cases c3:1+x=3
     ·rw [Bp (eqT c3),b4,sbd,b5,sbd];refine k6 _ _ _ _ _ _ _ _ _ _ _ _ (.inr ?_);dsimp only [inS,zS,trS];omega
     ·rw [Ar (eqF c3)];refine k6 _ _ _ _ _ _ _ _ _ _ _ _ (.inr ?_);dsimp only [inS,zS,trS];omega
   ·rw [Ar (dF (by omega))];unfold Hj Hh;rw [show apd 24 st [l]=some (st++[l]) by unfold apd;rw [if_pos (by simp;omega)],sbd,ckb (by omega)];exact ⟨l,by omega,h8,by rw [show k+(m-j)=k by omega]⟩
 have l2:∀(n j:Nat) (k:Int) (st:List (List api_Echo)),4*r+1≤n+j→j≤4*r→k=j*m→st.length=j→(∀l∈st,l.length=m∧∀e∈l,okE e) →
   ∃s,Cm F a r m a.Tilt (4*r:Nat) n st k j=some s∧Okw s r m:=by
  intro n
  induction n with
  | zero=>intro j k st h1 h2;omega
  | succ n ih =>
   intro j k st h4 h5 h6 h7 h8;show ∃s,Fy F a r m a.Tilt (4*r:Nat) (Cm F a r m a.Tilt (4*r:Nat) n) st k j=some s∧_;unfold Fy
   by_cases c:j<4*r
   ·have hk:k+m≤48:=by
     have:=Nat.mul_le_mul (show j+1≤12 by omega) (show m≤4 by omega);rw [h6,←Int.natCast_mul];rw [Nat.add_mul] at this;omega
    have hk0:0≤k:=by rw [h6,←Int.natCast_mul];omega
    obtain ⟨row,q1,q2,q3⟩:=l5 st j (Cm F a r m a.Tilt (4*r:Nat) n) (by omega) (by omega) F 0 k [] (by omega) (by omega) (by omega) rfl (by simp);rw [Bp (dT (by omega)),show Cn F a m st j (Cm F a r m a.Tilt (4*r:Nat) n) F k 0 []=_ from q3];refine ih (j+1) _ (st++[row]) (by omega) (by omega) ?_ (by simp;omega) (fun l hl=>?_)
    ·rw [h6,Int.natCast_add,Int.add_mul];omega
    ·rcases List.mem_append.1 hl with hl|hl
     ·exact h8 l hl
     ·rw [List.mem_singleton] at hl;subst hl;exact ⟨q1,q2⟩
   ·rw [Ar (dF (by omega))];exact ⟨_,rfl,⟨rfl,by omega,by omega,rfl,by dsimp only;omega,by dsimp only;omega,h8⟩⟩
 unfold J5;rw [ckb (by omega),Tw h1.1 (by omega),ckb (by omega),ckb (by omega),Tw h2.1 (by omega),ckb (by omega),ckb (by omega),ckb (by omega),hm2,hr2];rw [show 4*(r:Int)=((4*r:Nat):Int) by omega];exact l2 F 0 0 [] (by omega) (by omega) (by simp) rfl (by simp)
end Go.Proofs.YtkjnafecmjakcaaGreatDoor
namespace Go.Proofs.YtkjnafecmjakcaaGreatDoor
open Go Go.RowKit Go.Eng
set_option maxRecDepth 10000
set_option linter.unusedVariables false
set_option linter.unusedSimpArgs false
end Go.Proofs.YtkjnafecmjakcaaGreatDoor
namespace Go.Proofs.YtkjnafecmjakcaaGreatDoor
open Go Go.RowKit Go.Eng
set_option maxRecDepth 10000
set_option linter.unusedVariables false
set_option linter.unusedSimpArgs false
theorem A5r {x y:Bool} (h1:x=false) (h2:y=false):(bif x then true else y)=false:=by rw [h1,h2];rfl
section
variable {f:sift_Node→Option sift_Node} {p u v u' v':sift_Node} {n:Nat}
end
section
variable {f:sift_Node→Option Bool} {p u v:sift_Node} {n:Nat}
end
section
variable {f:sift_Node→sift_Node→Option Bool} {p u v:sift_Node} {n:Nat}
end
end Go.Proofs.YtkjnafecmjakcaaGreatDoor
namespace Go.Proofs.YtkjnafecmjakcaaGreatDoor
open Go Go.RowKit Go.Eng
set_option maxRecDepth 10000
set_option linter.unusedVariables false
set_option linter.unusedSimpArgs false
theorem Zd:L9 4000=some true:=by kernel_rfl
theorem Tb {l:List Int} (h:∀y∈l,0≤y∧y≤255):byts l:=fun y hy=>by have:=h y hy;omega
theorem Ya {n:Int} (h:0≤n∧n≤255):0≤n∧n<256:=by omega
theorem A48 {a:law04_Air} (h:(0≤a.Rose∧a.Rose≤255)∧(0≤a.Gates∧a.Gates≤255)∧(0≤a.Tilt∧a.Tilt≤255)∧(∀y∈a.Kinds,0≤y∧y≤255)∧(∀y∈a.Low,0≤y∧y≤255)∧(∀y∈a.Wide,0≤y∧y≤255)):AirIn a :=
 ⟨Ya h.1,Ya h.2.1,Ya h.2.2.1,Tb h.2.2.2.1,Tb h.2.2.2.2.1,Tb h.2.2.2.2.2⟩
end Go.Proofs.YtkjnafecmjakcaaGreatDoor
namespace Go.Proofs.YtkjnafecmjakcaaGreatDoor
open Go Go.RowKit Go.Eng
set_option maxRecDepth 10000
set_option linter.unusedVariables false
set_option linter.unusedSimpArgs false
def InSp (x y:api_Span):Prop:=x.Lo≤y.Lo∧y.Lo≤y.Hi∧y.Hi≤x.Hi
def RV (x y:sift_val):Prop:=(x=noV∧y=noV)∨(x.has=true∧y.has=true∧InSp x.span y.span)
def RT (t u:Int):Prop:=(1≤t∧t≤3)∧(1≤u∧u≤3)∧(t=2∨u=t)
theorem RT.mx {a b c d:Int} (h:RT a b) (h':RT c d):RT (mx a c) (mx b d):=by unfold RT Go.Proofs.YtkjnafecmjakcaaGreatDoor.mx at *;split<;>split<;>omega
theorem RT.mn {a b c d:Int} (h:RT a b) (h':RT c d):RT (mn a c) (mn b d):=by unfold RT Go.Proofs.YtkjnafecmjakcaaGreatDoor.mn at *;split<;>split<;>omega
theorem RT.tri {a b c d:Prop} [Decidable a] [Decidable b] [Decidable c] [Decidable d] (h1:a→c) (h2:¬a→¬b→¬c∧¬d):RT (tri a b) (tri c d):=by
 unfold RT Go.Proofs.YtkjnafecmjakcaaGreatDoor.tri
 by_cases ha:a
 ·have:=h1 ha;simp [ha,this]
 ·by_cases hb:b
  ·simp only [if_neg ha,if_pos hb];refine ⟨by omega,?_,.inl trivial⟩
   split
   ·omega
   ·split<;>omega
  ·have:=h2 ha hb;simp [ha,hb,this.1,this.2]
theorem Wc {op:Int} {x x' y y':api_Span} (hx:InSp x x') (hy:InSp y y'):RT (Ra op x y) (Ra op x' y'):=by
 obtain ⟨a1,a2,a3⟩:=hx;obtain ⟨b1,b2,b3⟩:=hy;unfold Ra
 split
 ·exact RT.tri (by omega) (by omega)
 ·split
  ·exact RT.tri (by omega) (by omega)
  ·split
   ·refine RT.tri ?_ ?_
    ·unfold mx mn;split<;>split<;>split<;>split<;>omega
    ·unfold mx mn;split<;>split<;>split<;>split<;>omega
   ·refine RT.tri ?_ ?_
    ·omega
    ·unfold mx mn;split<;>split<;>split<;>split<;>omega
theorem A08 {op:Int} {x x' y y':sift_val} (hx:RV x x') (hy:RV y y'):RT (Ux op x y) (Ux op x' y'):=by
 rcases hx with ⟨rfl,rfl⟩|⟨h1,h2,h3⟩
 ·unfold Ux RT;simp [noV]
 ·rcases hy with ⟨rfl,rfl⟩|⟨k1,k2,k3⟩
  ·unfold Ux RT;simp [noV]
  ·have n1:¬(x.has=false∨y.has=false):=by simp [h1,k1]
   have n2:¬(x'.has=false∨y'.has=false):=by simp [h2,k2]
   unfold Ux;simp only [if_neg n1,if_neg n2]
   by_cases c:op=10∨op=11
   ·simp only [if_pos c];exact Wc k3 h3
   ·simp only [if_neg c];exact Wc h3 k3
theorem A0y {op:Int} {x x' y y':sift_val} (hx:RV x x') (hy:RV y y'):RV (V1 op x y) (V1 op x' y'):=by
 rcases hx with ⟨rfl,rfl⟩|⟨h1,h2,h3⟩
 ·exact .inl ⟨rfl,rfl⟩
 ·rcases hy with ⟨rfl,rfl⟩|⟨k1,k2,k3⟩
  ·exact .inl ⟨by unfold V1;rw [if_pos (.inr rfl)],by unfold V1;rw [if_pos (.inr rfl)]⟩
  ·refine .inr ?_;have n1:¬(x.has=false∨y.has=false):=by simp [h1,k1]
   have n2:¬(x'.has=false∨y'.has=false):=by simp [h2,k2]
   unfold InSp at *;unfold V1;simp only [if_neg n1,if_neg n2]
   by_cases c:op=27
   ·simp only [if_pos c];exact ⟨trivial,trivial,by omega⟩
   ·simp only [if_neg c];exact ⟨trivial,trivial,by omega⟩
theorem A0s {op:Int} {l:List Int} {f g:Int→Int} (h:∀o∈l,RT (f o) (g o)):RT (Sj op l f) (Sj op l g):=by
 have key:∀(F:Int→Int→Int),(∀a b c d,RT a b→RT c d→RT (F a c) (F b d))→∀(l:List Int),(∀o∈l,RT (f o) (g o))→∀x y,RT x y→RT (l.foldl (fun a o=>F a (f o)) x) (l.foldl (fun a o=>F a (g o)) y):=by
  intro F hF l
  induction l with
  | nil=>intro _ x y hxy;exact hxy
  | cons o l ih=>intro hl x y hxy;exact ih (fun p hp=>hl p (by simp [hp])) _ _ (hF _ _ _ _ hxy (hl o (by simp)))
 unfold Sj
 split
 ·exact key Go.Proofs.YtkjnafecmjakcaaGreatDoor.mn (fun _ _ _ _ h h'=>h.mn h') l h 3 3 (by unfold RT;omega)
 ·exact key Go.Proofs.YtkjnafecmjakcaaGreatDoor.mx (fun _ _ _ _ h h'=>h.mx h') l h 1 1 (by unfold RT;omega)
theorem Yk {l:List Int} {f g:Int→Int} (h:∀o∈l,RT (f o) (g o)):RV (Pb l f) (Pb l g):=by
 refine .inr ⟨rfl,rfl,?_⟩;unfold InSp Pb;dsimp only;have key:∀l:List Int,(∀o∈l,RT (f o) (g o))→l.countP (fun o=>f o==1)≤l.countP (fun o=>g o==1)∧l.countP (fun o=>g o==1)≤l.countP (fun o=>g o != 3)∧l.countP (fun o=>g o != 3)≤l.countP (fun o=>f o != 3):=by
  intro l
  induction l with
  | nil=>simp
  | cons o l ih =>
   intro hl;have i:=ih fun p hp=>hl p (by simp [hp]);obtain ⟨c1,c2,c3⟩:=hl o (by simp);simp only [List.countP_cons];have e1:(f o==1)=true→(g o==1)=true:=by rw [beq_iff_eq,beq_iff_eq];omega
   have e2:(g o==1)=true→(g o != 3)=true:=by rw [beq_iff_eq,bne_iff_ne];omega
   have e3:(g o != 3)=true→(f o != 3)=true:=by rw [bne_iff_ne,bne_iff_ne];omega
   cases a:(f o==1)<;>cases b:(g o==1)<;>cases c:(g o != 3)<;>cases d:(f o != 3)<;>simp_all<;>omega
 have:=key l h;omega
structure RE (e e':api_Echo):Prop where
 kind:e'.Kind=e.Kind
 power:InSp e.Power e'.Power
 ratio:InSp e.Ratio e'.Ratio
 mat:InSp e.Match e'.Match
 turn:InSp e.Turn e'.Turn
 step:InSp e.Steps.1 e'.Steps.1
 spread:e'.Spread=e.Spread
structure RS (s s':api_Sweep) (R m:Nat):Prop where
 sw:Swp s R m
 sw':Swp s' R m
 tilt:s'.Tilt=s.Tilt
 echo:∀k:Int,0≤k→k<(R*m:Nat)→RE (rowS s k) (rowS s' k)
theorem W8 {x:Int}:RV (pt x) (pt x):=.inr ⟨rfl,rfl,by unfold InSp pt;dsimp only;omega⟩
theorem Xe {x y:api_Span} (h:InSp x y):RV ⟨x,true⟩ ⟨y,true⟩:=.inr ⟨rfl,rfl,h⟩
theorem Mv {c:Prop} [Decidable c] {a b a' b':sift_val} (h1:c→RV a a') (h2:¬c→RV b b'):RV (if c then a else b) (if c then a' else b'):=by
 by_cases h:c
 ·rw [if_pos h,if_pos h];exact h1 h
 ·rw [if_neg h,if_neg h];exact h2 h
theorem Ys {s s':api_Sweep} {R m:Nat} (h:RS s s' R m) {op v k:Int} (hk:0≤k∧k<(R*m:Nat)):RV (Pd s op v k) (Pd s' op v k):=by
 have e:=h.echo k hk.1 hk.2;unfold Pd;rw [e.kind,e.spread,h.tilt,h.sw.hm,h.sw'.hm];exact Mv (fun _=>W8) fun _=>Mv (fun _=>W8) fun _=>Mv (fun _=>W8) fun _=>Mv (fun _=>W8) fun _=>Mv (fun _=>W8) fun _=>Mv (fun _=>Xe e.power) fun _=>Mv (fun _=>.inl ⟨rfl,rfl⟩) fun _=>Mv (fun _=>Xe e.ratio) fun _=>Mv (fun _=>Xe e.mat) fun _=>Mv (fun _=>W8) fun _=>Mv (fun _=>.inl ⟨rfl,rfl⟩) fun _=>Mv (fun _=>Xe e.turn) fun _=>Xe e.step
theorem Y0 {s s':api_Sweep} {R m:Nat} (h:RS s s' R m):∀(t:T) (k:Int),0≤k∧k<(R*m:Nat)→(okT true t→RT (t.sem s k).1 (t.sem s' k).1)∧(okT false t→RV (t.sem s k).2 (t.sem s' k).2):=by
 have h4:=h.sw.R4;have h1:=h.sw.m1;have hn:∀{k r g o:Int},o∈nbs s.Rays.length s.Site.Gates k r g→0≤o∧o<(R*m:Nat):=by
  intro k r g o ho;rw [h.sw.hR,h.sw.hm] at ho;have:=Zv (R:=(R:Int)) (m:=(m:Int)) (by omega) (by omega) ho;rw [Int.natCast_mul];exact this
 have hsame:∀k r g,nbs s'.Rays.length s'.Site.Gates k r g=nbs s.Rays.length s.Site.Gates k r g:=by
  intro k r g;rw [h.sw.hR,h.sw.hm,h.sw'.hR,h.sw'.hm]
 intro t
 induction t with
 | leaf op v =>
  intro k hk;refine ⟨fun ho=>?_,fun _=>Ys h hk⟩;show RT (if op=1 then 1 else 3) (if op=1 then 1 else 3);unfold RT;split<;>omega
 | un op r g a ih =>
  intro k hk;simp only [T.sem];rw [hsame];refine ⟨fun ho=>?_,fun ho=>?_⟩
  ·simp only [okT] at ho
   by_cases h3:op=3
   ·rw [if_pos h3,if_pos h3];have:=(ih k hk).1 ho.2;unfold RT at *;omega
   ·rw [if_neg h3,if_neg h3];exact A0s fun o hm=>(ih o (hn hm)).1 ho.2
  ·simp only [okT] at ho;exact Yk fun o hm=>(ih o (hn hm)).1 ho.2
 | bin op a b iha ihb =>
  intro k hk;simp only [T.sem];refine ⟨fun ho=>?_,fun ho=>?_⟩
  ·simp only [okT] at ho;rcases ho with ho|ho
   ·have i:=(iha k hk).1 ho.2.1;have j:=(ihb k hk).1 ho.2.2
    by_cases h4:op=4
    ·rw [if_pos h4,if_pos h4];exact i.mx j
    ·rw [if_neg h4,if_neg h4,if_pos (by omega),if_pos (by omega)];exact i.mn j
   ·rw [if_neg (by omega),if_neg (by omega),if_neg (by omega),if_neg (by omega)];exact A08 ((iha k hk).2 ho.2.2.1) ((ihb k hk).2 ho.2.2.2)
  ·simp only [okT] at ho;exact A0y ((iha k hk).2 ho.2.1) ((ihb k hk).2 ho.2.2.1)
def PV (x:sift_val):Prop:=x.has=true→x.span.Lo=x.span.Hi
def PT (t:Int):Prop:=t=1∨t=3
structure PE (e:api_Echo):Prop where
 power:e.Power.Lo=e.Power.Hi
 ratio:e.Ratio.Lo=e.Ratio.Hi
 mat:e.Match.Lo=e.Match.Hi
 turn:e.Turn.Lo=e.Turn.Hi
 step:e.Steps.1.Lo=e.Steps.1.Hi
theorem PT.tri {a b:Prop} [Decidable a] [Decidable b] (h:b→a):PT (tri a b):=by
 unfold PT Go.Proofs.YtkjnafecmjakcaaGreatDoor.tri
 by_cases ha:a
 ·simp [ha]
 ·have:¬b:=fun hb=>ha (h hb);simp [ha,this]
theorem Zh {op:Int} {x y:api_Span} (hx:x.Lo=x.Hi) (hy:y.Lo=y.Hi):PT (Ra op x y):=by
 unfold Ra
 split
 ·exact PT.tri (by omega)
 ·split
  ·exact PT.tri (by omega)
  ·split
   ·refine PT.tri ?_;unfold mx mn;split<;>split<;>omega
   ·refine PT.tri ?_;unfold mx mn;split<;>split<;>omega
theorem W7 {x:Int}:PV (pt x):=fun _=>rfl
theorem Xd {x:api_Span} (h:x.Lo=x.Hi):PV ⟨x,true⟩:=fun _=>h
theorem A13:PV noV:=fun h=>by cases h
theorem Mu {c:Prop} [Decidable c] {a b:sift_val} (h1:c→PV a) (h2:¬c→PV b):PV (if c then a else b):=by
 by_cases h:c
 ·rw [if_pos h];exact h1 h
 ·rw [if_neg h];exact h2 h
theorem A0v {s:api_Sweep} {R m:Nat} (h:Swp s R m) (hp:∀k:Int,0≤k→k<(R*m:Nat)→PE (rowS s k)):∀(t:T) (k:Int),0≤k∧k<(R*m:Nat)→(okT true t→PT (t.sem s k).1)∧(okT false t→PV (t.sem s k).2):=by
 have h4:=h.R4;have h1:=h.m1;have hn:∀{k r g o:Int},o∈nbs s.Rays.length s.Site.Gates k r g→0≤o∧o<(R*m:Nat):=by
  intro k r g o ho;rw [h.hR,h.hm] at ho;have:=Zv (R:=(R:Int)) (m:=(m:Int)) (by omega) (by omega) ho;rw [Int.natCast_mul];exact this
 intro t
 induction t with
 | leaf op v =>
  intro k hk;have e:=hp k hk.1 hk.2;refine ⟨fun ho=>?_,fun _=>?_⟩
  ·simp only [T.sem,PT];split<;>omega
  ·simp only [T.sem,Pd];exact Mu (fun _=>W7) fun _=>Mu (fun _=>W7) fun _=>Mu (fun _=>W7) fun _=>Mu (fun _=>W7) fun _=>Mu (fun _=>W7) fun _=>Mu (fun _=>Xd e.power) fun _=>Mu (fun _=>A13) fun _=>Mu (fun _=>Xd e.ratio) fun _=>Mu (fun _=>Xd e.mat) fun _=>Mu (fun _=>W7) fun _=>Mu (fun _=>A13) fun _=>Mu (fun _=>Xd e.turn) fun _=>Xd e.step
 | un op r g a ih =>
  intro k hk;simp only [T.sem];refine ⟨fun ho=>?_,fun ho=>?_⟩
  ·simp only [okT] at ho
   by_cases h3:op=3
   ·rw [if_pos h3];have:=(ih k hk).1 ho.2;unfold PT at *;omega
   ·rw [if_neg h3];have key:∀(F:Int→Int→Int),(∀a c,PT a→PT c→PT (F a c))→∀(l:List Int),(∀o∈l,PT (a.sem s o).1)→∀x,PT x→PT (l.foldl (fun y o=>F y (a.sem s o).1) x):=by
     intro F hF l
     induction l with
     | nil=>intro _ x hx;exact hx
     | cons o l ih=>intro hl x hx;exact ih (fun p hp=>hl p (by simp [hp])) _ (hF _ _ hx (hl o (by simp)))
    unfold Sj
    split
    ·exact key Go.Proofs.YtkjnafecmjakcaaGreatDoor.mn (fun _ _ h h'=>by unfold PT Go.Proofs.YtkjnafecmjakcaaGreatDoor.mn at *;split<;>omega) _ (fun o hm=>(ih o (hn hm)).1 ho.2) 3 (.inr rfl)
    ·exact key Go.Proofs.YtkjnafecmjakcaaGreatDoor.mx (fun _ _ h h'=>by unfold PT Go.Proofs.YtkjnafecmjakcaaGreatDoor.mx at *;split<;>omega) _ (fun o hm=>(ih o (hn hm)).1 ho.2) 1 (.inl rfl)
  ·simp only [okT] at ho;intro _;unfold Pb;dsimp only
   congr 1
   apply List.countP_congr;intro o hm;have:=(ih o (hn hm)).1 ho.2;unfold PT at this;rw [beq_iff_eq,bne_iff_ne];omega
 | bin op a b iha ihb =>
  intro k hk;simp only [T.sem];refine ⟨fun ho=>?_,fun ho=>?_⟩
  ·simp only [okT] at ho;rcases ho with ho|ho
   ·have i:=(iha k hk).1 ho.2.1;have j:=(ihb k hk).1 ho.2.2
    by_cases h4:op=4
    ·rw [if_pos h4];unfold PT mx at *;split<;>omega
    ·rw [if_neg h4,if_pos (by omega)];unfold PT mn at *;split<;>omega
   ·rw [if_neg (by omega),if_neg (by omega)];have i:=(iha k hk).2 ho.2.2.1;have j:=(ihb k hk).2 ho.2.2.2;unfold Ux
    split
    ·exact .inr rfl
    ·rename_i hh
     have x1:(a.sem s k).2.has=true:=by cases e:(a.sem s k).2.has<;>simp_all
     have x2:(b.sem s k).2.has=true:=by cases e:(b.sem s k).2.has<;>simp_all
     split
     ·exact Zh (j x2) (i x1)
     ·exact Zh (i x1) (j x2)
  ·simp only [okT] at ho;have i:=(iha k hk).2 ho.2.1;have j:=(ihb k hk).2 ho.2.2.1;unfold V1
   split
   ·exact A13
   ·rename_i hh
    have x1:(a.sem s k).2.has=true:=by cases e:(a.sem s k).2.has<;>simp_all
    have x2:(b.sem s k).2.has=true:=by cases e:(b.sem s k).2.has<;>simp_all
    have:=i x1;have:=j x2
    split
    ·intro _;dsimp only;omega
    ·intro _;dsimp only;omega
end Go.Proofs.YtkjnafecmjakcaaGreatDoor
namespace Go.Proofs.YtkjnafecmjakcaaGreatDoor
open Go Go.RowKit Go.Eng
set_option maxRecDepth 10000
set_option linter.unusedVariables false
set_option linter.unusedSimpArgs false
theorem A2u (s:api_Sweep) (N:Nat):Inv s N ⟨s,N,[],[]⟩:=⟨rfl,rfl,(fun t l _ h=>by cases h),(fun t l _ h=>by cases h)⟩
section
variable {s:api_Sweep} {R m:Nat} {t:T} {F:Nat} {a i:Int}
theorem Zq (ha:0≤a∧a<R) (hi:0≤i∧i<m):0≤a*m+i∧a*m+i<(R*m:Nat):=by
 have:=Z0 ha.1 ha.2 hi.1 hi.2;rw [Int.natCast_mul];exact this
theorem V5 (h:Swp s R m) (hc:D7 F s=some 0) (ht:okT false t) (h1:t.size≤300) (h2:t.depth≤12) (hF:4000≤F) (ha:0≤a∧a<R) (hi:0≤i∧i<m) :
  L5 F t.node s a i=some ((t.sem s (a*m+i)).2.span,(t.sem s (a*m+i)).2.has,0):=by
 have hN:=h.N1;have hR:=h.R4;have hm:=h.m1;have hg:=Zq ha hi;have hk:sift_isValue t.node=true:=ht.kind.2;have ham:0≤a*m:=Int.mul_nonneg ha.1 (by omega);obtain ⟨d',q1,-⟩:=(A3d h t F ⟨s,(R*m:Nat),[],[]⟩ (by omega) (by omega) (A2u s _)).2 ht;unfold L5 Ku Kc;rw [Yl t F 300 (by omega) (by omega) (by omega),sbd,Ar (dF (by omega)),A2n t F (by have:=t.depth_le;omega) (by omega),sbd,Ar (dF (by omega)),hk,gdT (g:=(!true)==false&&true) rfl,A0x t false F ht (by omega),sbd,Ar (c:=bif !true then true else !true) rfl,hc,sbd,Ar (neF rfl),h.hR,h.hm,
  Ar (A5r (A5r (dF (by split<;>omega)) (dF (by omega))) (dF (by omega))),ckb (by rw [←Int.natCast_mul];omega),sbd,sbd]
 unfold exc;dsimp only;rw [Ar (neF rfl),ckb (by omega),ckb (by omega)];rw [show ((R:Int)*(m:Int))=((R*m:Nat):Int) from (Int.natCast_mul ..).symm];show (Ed F ⟨s,(R*m:Nat),[],[]⟩ t.node).bind _=_;rw [q1,sbd,R7 hg]
end
end Go.Proofs.YtkjnafecmjakcaaGreatDoor
namespace Go.Proofs.YtkjnafecmjakcaaGreatDoor
open Go Go.RowKit Go.Eng
set_option maxRecDepth 10000
set_option linter.unusedVariables false
set_option linter.unusedSimpArgs false
theorem Nl {x:api_Span} {p:List Int} (hp:byts p) (F:Nat) {i:Int} (hi:0≤i∧i≤100000) (h:-4294967296≤x.Lo∧x.Lo≤x.Hi∧x.Hi≤4294967296) (q:Bool) :
  ∃y,Cy F x p i q=some y∧InSp x y∧(q=true→y.Lo=y.Hi):=by
 obtain ⟨a,a1,a2,a3⟩:=Lz hp F (i:=i) (n:=x.Hi-x.Lo+1) hi.1 (by omega);unfold Cy A7;rw [ckb (by omega),ckb (by omega),a1,sbd,ckb (by omega)]
 cases q
 ·obtain ⟨b,b1,b2,b3⟩:=Lz hp F (i:=i+1) (n:=x.Hi-(x.Lo+a)+1) (by omega) (by omega);rw [Ar rfl,ckb (by omega),ckb (by omega),ckb (by omega),b1,sbd,ckb (by omega)];exact ⟨_,rfl,by unfold InSp;dsimp only;omega,fun e=>by cases e⟩
 ·rw [Bp rfl];exact ⟨_,rfl,by unfold InSp;dsimp only;omega,fun _=>rfl⟩
theorem Uv {x y:api_Span} (h:zS x) (i:InSp x y):zS y:=by unfold zS InSp at *;omega
theorem X2 {x y:api_Span} {lo hi:Int} (h:inS x lo hi) (i:InSp x y):inS y lo hi:=by unfold inS InSp at *;omega
theorem Z9 {x y:api_Span} (h:trS x) (i:InSp x y):trS y:=by unfold trS InSp at *;omega
theorem A50 {e:api_Echo} {a b:Int} {y1 y2 y3 y4 y5:api_Span} (he:okE e) (ha:InSp e.Power ⟨a,b⟩) (hk:e.Kind=1→a=0) (i1:InSp e.Ratio y1) (i2:InSp e.Match y2) (i3:InSp e.Turn y3) (i4:InSp e.Steps.1 y4) (i5:InSp e.Steps.2 y5) :
  okE ⟨e.Kind,⟨a,b⟩,(y4,y5),e.Spread,y1,y2,y3⟩:=by
 rcases he with ⟨h1,h2,h3,h4,h5,h6,h7,h8,h9⟩|⟨h1,h2,h3,h4,h5,h6,h7,h8,h9⟩
 ·exact .inl ⟨h1,X2 h2 ha,hk h1,Uv h4 i4,Uv h5 i5,h6,Uv h7 i1,Uv h8 i2,Uv h9 i3⟩
 ·refine .inr ⟨h1,X2 h2 ha,?_,X2 h4 i1,X2 h5 i2,h6,h7,fun e=>?_,fun e=>?_⟩
  ·unfold InSp at ha;dsimp only at *;omega
  ·obtain ⟨z1,z2,z3⟩:=h8 e;exact ⟨Uv z1 i4,Uv z2 i5,Uv z3 i3⟩
  ·obtain ⟨z1,z2,z3⟩:=h9 e;exact ⟨Z9 z1 i4,Z9 z2 i5,Z9 z3 i3⟩
def fit (x:api_Span):Prop:=-4294967296≤x.Lo∧x.Lo≤x.Hi∧x.Hi≤4294967296
theorem zS.fit {x:api_Span} (h:zS x):fit x:=by unfold zS at h;unfold Go.Proofs.YtkjnafecmjakcaaGreatDoor.fit;omega
theorem inS.fit {x:api_Span} {lo hi:Int} (h:inS x lo hi) (h0:0≤lo∧hi≤1073741824):fit x:=by unfold inS at h;unfold Go.Proofs.YtkjnafecmjakcaaGreatDoor.fit;omega
theorem trS.fit {x:api_Span} (h:trS x):fit x:=by unfold trS at h;unfold Go.Proofs.YtkjnafecmjakcaaGreatDoor.fit;omega
theorem okE.fits {e:api_Echo} (he:okE e):fit e.Power∧fit e.Ratio∧fit e.Match∧fit e.Turn∧fit e.Steps.1∧fit e.Steps.2:=by
 rcases he with ⟨h1,h2,h3,h4,h5,h6,h7,h8,h9⟩|⟨h1,h2,h3,h4,h5,h6,h7,h8,h9⟩
 ·exact ⟨h2.fit (by omega),h7.fit,h8.fit,h9.fit,h4.fit,h5.fit⟩
 ·rcases h1 with e|e
  ·obtain ⟨z1,z2,z3⟩:=h8 e;exact ⟨h2.fit (by omega),h4.fit (by omega),h5.fit (by omega),z3.fit,z1.fit,z2.fit⟩
  ·obtain ⟨z1,z2,z3⟩:=h9 e;exact ⟨h2.fit (by omega),h4.fit (by omega),h5.fit (by omega),z3.fit,z1.fit,z2.fit⟩
structure RE2 (q:Bool) (e e':api_Echo):Prop where
 re:RE e e'
 ok:okE e'
 pt:q=true→PE e'
def A14 (q:Bool) (l l':List api_Echo):Prop:=l'.length=l.length∧∀(i:Nat) e,l[i]? = some e→∃e',l'[i]? = some e'∧RE2 q e e'
set_option maxHeartbeats 2000000 in
theorem Ws {s:api_Sweep} {r m:Nat} (h:Okw s r m) {p:List Int} (hp:byts p) (q:Bool) {F:Nat} (hF:50≤F) :
  ∃s',Ld F s p q=some s'∧Okw s' r m∧RS s s' (4*r) m∧(q=true→∀k:Int,0≤k→k<(4*r*m:Nat)→PE (rowS s' k)):=by
 have h1:=h.r1;have h2:=h.m1;have hl:=h.len;have l5:∀(row:List api_Echo),row∈s.Rays→∀(st:List (List api_Echo)) (b:Int) (k2:List (List api_Echo)→Int→Int→Option api_Sweep),st.length≤20→0≤b∧b≤20 →
   ∀(n j:Nat) (k:Int) (l:List api_Echo),m+1≤n+j→j≤m→0≤k∧k+7*(m-j)≤10000→A14 q (row.take j) l →
   ∃row',A14 q row row'∧E3 F p q st b k2 row n l j k=k2 (st++[row']) (b+1) (k+7*(m-j)):=by
  intro row hrow st b k2 hst hb n;obtain ⟨e1,e2⟩:=h.rows row hrow
  induction n with
  | zero=>intro j k l h1 h2;omega
  | succ n ih =>
   intro j k l h4 h5 h6 h7;have hlj:l.length=j:=by have:=h7.1;simp at this;omega
   show ∃row',_∧J7 F p q st b k2 row (E3 F p q st b k2 row n) l j k=_;unfold J7
   by_cases c:j<m
   ·have hx:=List.getElem?_eq_getElem (show j<row.length by omega);have he:=e2 _ (List.getElem_mem (show j<row.length by omega));generalize row[j]=e at hx he;obtain ⟨f0,f1,f2,f3,f4,f5⟩:=he.fits;have k6:∀a b',InSp e.Power ⟨a,b'⟩→(e.Kind=1→a=0)→(q=true→a=b')→∃row',A14 q row row'∧Gg F p q l j k (E3 F p q st b k2 row n) e a b'=k2 (st++[row']) (b+1) (k+7*(m-j)):=by
     intro a b' ha hk hq;obtain ⟨y1,p1,i1,t1⟩:=Nl hp F (i:=k+1) (by omega) (x:=e.Ratio) f1 q;obtain ⟨y2,p2,i2,t2⟩:=Nl hp F (i:=k+2) (by omega) (x:=e.Match) f2 q;obtain ⟨y3,p3,i3,t3⟩:=Nl hp F (i:=k+3) (by omega) (x:=e.Turn) f3 q;obtain ⟨y4,p4,i4,t4⟩:=Nl hp F (i:=k+4) (by omega) (x:=e.Steps.1) f4 q;obtain ⟨y5,p5,i5,t5⟩:=Nl hp F (i:=k+5) (by omega) (x:=e.Steps.2) f5 q;unfold Gg;rw [ckb (by omega),p1,sbd,ckb (by omega),p2,sbd,ckb (by omega),p3,sbd,ckb (by omega),show Cy F ⟨e.Steps.1.Lo,e.Steps.1.Hi⟩ p (k+4) q=some y4 from p4,sbd,ckb (by omega),show Cy F ⟨e.Steps.2.Lo,e.Steps.2.Hi⟩ p (k+5) q=some y5 from p5,sbd,
      show apd 112 l [(⟨e.Kind,⟨a,b'⟩,(y4,y5),e.Spread,y1,y2,y3⟩:api_Echo)]=some (l++[(⟨e.Kind,⟨a,b'⟩,(y4,y5),e.Spread,y1,y2,y3⟩:api_Echo)]) by unfold apd;rw [if_pos (by simp;omega)],sbd,ckb (by omega),ckb (by omega)]
     have hre:RE2 q e ⟨e.Kind,⟨a,b'⟩,(y4,y5),e.Spread,y1,y2,y3⟩:=by
      exact ⟨⟨rfl,ha,i1,i2,i3,i4,rfl⟩,A50 he ha hk i1 i2 i3 i4 i5,fun hqt=>⟨hq hqt,t1 hqt,t2 hqt,t3 hqt,t4 hqt⟩⟩
     obtain ⟨row',r1,r2⟩:=ih (j+1) (k+7) (l++[(⟨e.Kind,⟨a,b'⟩,(y4,y5),e.Spread,y1,y2,y3⟩:api_Echo)]) (by omega) (by omega) (by omega) ⟨by simp;omega,fun i x hi=>by
      by_cases hij:i<j
      ·obtain ⟨x',u1,u2⟩:=h7.2 i x (by rw [List.getElem?_take_of_lt (by omega)] at hi ⊢;exact hi);exact ⟨x',by rw [List.getElem?_append_left (by omega)];exact u1,u2⟩
      ·have hi3:=(List.getElem?_eq_some_iff.1 hi).1;have hij2:i=j:=by simp at hi3;omega
       subst hij2;rw [List.getElem?_take_of_lt (by omega),hx] at hi
       cases hi
       exact ⟨_,by rw [List.getElem?_append_right (by omega),hlj,Nat.sub_self];rfl,hre⟩⟩
     refine ⟨row',r1,?_⟩;rw [show k+7*((m:Int)-j)=k+7+7*(m-((j+1:Nat):Int)) by omega];exact r2
    obtain ⟨y0,p0,i0,t0⟩:=Nl hp F (i:=k) (by omega) (x:=e.Power) f0 q;rw [Bp (dT (by omega)),Mm j _ rfl hx,p0,sbd];unfold InSp at i0;unfold fit at f0
    by_cases c1:e.Kind=1
    ·have hz:e.Power.Lo=0:=by (rcases he with he|he;exact he.2.2.1;exact absurd c1 (by have:=he.1;omega))
     rw [Bp (eqT c1),ckb (by omega)];refine k6 _ _ ?_ (fun _=>rfl) (fun hq=>?_)
     ·unfold InSp A7;dsimp only;omega
     ·have:=t0 hq;unfold A7;dsimp only;omega
    ·rw [Ar (eqF c1)];exact k6 _ _ i0 (fun e=>absurd e c1) t0
   ·rw [Ar (dF (by omega))];have hjm:j=m:=by omega
    unfold Kr Kq;rw [show apd 24 st [l]=some (st++[l]) by unfold apd;rw [if_pos (by simp;omega)],sbd,ckb (by omega)];refine ⟨l,?_,by rw [show k+7*((m:Int)-j)=k by omega]⟩;rw [List.take_of_length_le (by omega)] at h7;exact h7
 have l2:∀(n j:Nat) (k:Int) (st:List (List api_Echo)),4*r+1≤n+j→j≤4*r→k=7*(j*m:Nat)→st.length=j→(∀(i:Nat) l,i<j→s.Rays[i]? = some l→∃l',st[i]? = some l'∧A14 q l l') →
   ∃st',E2 F s p q n st j k=some ⟨s.Site,s.Tilt,s.Time,st'⟩∧st'.length=4*r∧∀(i:Nat) l,s.Rays[i]? = some l→∃l',st'[i]? = some l'∧A14 q l l':=by
  intro n
  induction n with
  | zero=>intro j k st h1 h2;omega
  | succ n ih =>
   intro j k st h4 h5 h6 h7 h8;show ∃st',J6 F s p q (E2 F s p q n) st j k=_∧_;unfold J6
   by_cases c:j<4*r
   ·have hjm:(j+1)*m≤48:=by
     have:=Nat.mul_le_mul (show j+1≤12 by omega) (show m≤4 by omega);omega
    rw [Nat.add_mul] at hjm;have hx:=List.getElem?_eq_getElem (show j<s.Rays.length by omega);have hm:=List.getElem_mem (show j<s.Rays.length by omega);generalize s.Rays[j]=row at hx hm;obtain ⟨row',r1,r2⟩:=l5 row hm st j (E2 F s p q n) (by omega) (by omega) F 0 k [] (by omega) (by omega) (by omega) ⟨rfl,fun i e hi=>by simp at hi⟩;rw [Bp (dT (by omega)),Mm j _ rfl hx,show E3 F p q st j (E2 F s p q n) row F [] 0 k=_ from r2];refine ih (j+1) _ (st++[row']) (by omega) (by omega) (by rw [Nat.add_mul];omega) (by simp;omega) (fun i l hi hl=>?_)
    by_cases hij:i<j
    ·obtain ⟨l',u1,u2⟩:=h8 i l hij hl;exact ⟨l',by rw [List.getElem?_append_left (by omega)];exact u1,u2⟩
    ·have hij2:i=j:=by omega
     subst hij2;rw [hx] at hl
     cases hl
     exact ⟨row',by rw [List.getElem?_append_right (by omega),h7,Nat.sub_self];rfl,r1⟩
   ·rw [Ar (dF (by omega))];refine ⟨st,rfl,by omega,fun i l hi=>?_⟩;exact h8 i l (by have:=(List.getElem?_eq_some_iff.1 hi).1;omega) hi
 obtain ⟨st',w1,w2,w3⟩:=l2 F 0 0 [] (by omega) (by omega) (by simp) rfl (fun i l hi=>by omega);have hok:Okw ⟨s.Site,s.Tilt,s.Time,st'⟩ r m:=by
  refine ⟨h.site,h.r1,h.m1,h.time,h.tilt,w2,fun l' hl'=>?_⟩;obtain ⟨i,hi,e⟩:=List.mem_iff_getElem.1 hl';have hi:i<st'.length:=hi;obtain ⟨l2,u1,u2,u3⟩:=w3 i _ (List.getElem?_eq_getElem (show i<s.Rays.length by omega));rw [List.getElem?_eq_getElem hi] at u1;have e2:l'=l2:=by rw [←e];exact Option.some.inj u1
  subst e2;obtain ⟨v1,v2⟩:=h.rows _ (List.getElem_mem (show i<s.Rays.length by omega));refine ⟨by omega,fun x hx=>?_⟩;obtain ⟨j,hj,ex⟩:=List.mem_iff_getElem.1 hx;obtain ⟨x',z1,z2⟩:=u3 j _ (List.getElem?_eq_getElem (by omega));rw [List.getElem?_eq_getElem hj] at z1;have e3:x=x':=by rw [←ex];exact Option.some.inj z1
  subst e3;exact z2.ok
 have hre:∀k:Int,0≤k→k<(4*r*m:Nat)→RE2 q (rowS s k) (rowS ⟨s.Site,s.Tilt,s.Time,st'⟩ k):=by
  intro k k1 k2;obtain ⟨row,g1,g2,-⟩:=V3 h.swp ⟨k1,k2⟩;obtain ⟨row',g3,g4,-⟩:=V3 hok.swp ⟨k1,k2⟩;obtain ⟨l2,u1,u2,u3⟩:=w3 _ _ g1;have e:row'=l2:=Option.some.inj (g3.symm.trans u1);subst e;obtain ⟨x',z1,z2⟩:=u3 _ _ g2;have e3:rowS ⟨s.Site,s.Tilt,s.Time,st'⟩ k=x':=Option.some.inj (g4.symm.trans z1);rw [e3];exact z2
 exact ⟨_,w1,hok,⟨h.swp,hok.swp,rfl,fun k k1 k2=>(hre k k1 k2).re⟩,fun hq k k1 k2=>(hre k k1 k2).pt hq⟩
end Go.Proofs.YtkjnafecmjakcaaGreatDoor
namespace Go.Proofs.YtkjnafecmjakcaaGreatDoor
open Go Go.RowKit Go.Eng
set_option maxRecDepth 10000
set_option linter.unusedVariables false
set_option linter.unusedSimpArgs false
theorem Vs {p w:List Int} {a:law04_Air} {ray gate:Int} (hp:byts p) (hw:byts w) (ha:AirIn a) (hr:0≤ray∧ray<256) (hg:0≤gate∧gate<256):H4 4000 p a w ray gate=some true:=by
 generalize hF:4000=F;have hF2:4000≤F:=by omega
 have hwk:L9 F=some true:=by rw [←hF];exact Zd
 obtain ⟨t,p',q1,q2,-⟩:=(A37 true 5 F p hp (by omega) (by omega)).2 (by omega);obtain ⟨s,q3,q4⟩:=A49 ha (F:=F) (by omega);generalize (1+a.Rose%3).toNat=r at *;generalize (1+a.Gates%4).toNat=m at *;obtain ⟨s1,w1,o1,m1,-⟩:=Ws q4 hw false (F:=F) (by omega);obtain ⟨s2,w2,o2,m2,pt2⟩:=Ws q4 hw true (F:=F) (by omega);have hm:=q4.m1;have hrr:=q4.r1;have hsz:=q2.size;have hdp:=q2.depth;have e1:(s.Rays.length:Int)=((4*r:Nat):Int):=by rw [q4.len]
 have e2:s.Site.Gates=(m:Int):=by rw [q4.site]
 have ha':0≤ray%((4*r:Nat):Int)∧ray%((4*r:Nat):Int)<((4*r:Nat):Int):=⟨Int.emod_nonneg _ (by omega),Int.emod_lt_of_pos _ (by omega)⟩;have hi':0≤gate%(m:Int)∧gate%(m:Int)<(m:Int):=⟨Int.emod_nonneg _ (by omega),Int.emod_lt_of_pos _ (by omega)⟩;unfold H4;rw [show Bk F p 5 true=_ from q1,sbd,q3,sbd,ckb (by omega),e1,Tw hr.1 (by omega),ckb (by omega),e2,Tw hg.1 (by omega)];dsimp only;rw [Pg];generalize ray%((4*r:Nat):Int)=x at *;generalize gate%(m:Int)=y at *;have hk:=Zq ha' hi';have v0:=V5 (F:=F) q4.swp (q4.check (by omega)) q2.ok (by omega) (by omega) hF2 ha' hi';have v1:=V5 (F:=F) o1.swp (o1.check (by omega)) q2.ok (by omega) (by omega) hF2 ha' hi';have v2:=V5 (F:=F) o2.swp (o2.check (by omega)) q2.ok (by omega) (by omega) hF2 ha' hi';have r1:=(Y0 m1 t _ hk).2 q2.ok;have r2:=(Y0 m2 t _ hk).2 q2.ok;have r3:=(A0v o2.swp (fun k h1 h2=>pt2 rfl k h1 h2) t _ hk).2 q2.ok;rw [v0,sbd,w1,sbd,v1,sbd,w2,sbd,v2,sbd];generalize (t.sem s (x*m+y)).2=a0 at *;generalize (t.sem s1 (x*m+y)).2=a1 at *;generalize (t.sem s2 (x*m+y)).2=a2 at *;have n:(bif (bif (bif (bif ((0:Int) != 0) then true else ((0:Int) != 0)) then true else ((0:Int) != 0)) then true else (!(a0.has==a1.has))) then true else (!(a0.has==a2.has)))=false:=by
  have b1:a0.has=a1.has:=by rcases r1 with ⟨x1,x2⟩|⟨x1,x2,-⟩<;>rw [x1,x2]
  have b2:a0.has=a2.has:=by rcases r2 with ⟨x1,x2⟩|⟨x1,x2,-⟩<;>rw [x1,x2]
  rw [←b1,←b2];cases a0.has<;>rfl
 rw [Ar n];rcases r1 with ⟨rfl,rfl⟩|⟨x1,x2,x3⟩
 ·rcases r2 with ⟨-,rfl⟩|⟨z1,-⟩
  ·rw [hwk];rfl
  ·cases z1
 ·rcases r2 with ⟨rfl,-⟩|⟨z1,z2,z3⟩
  ·cases x1
  ·have pp:=r3 z2;unfold InSp at x3 z3;rw [x1,Ar (c:=!true) rfl];have b:(bif (bif (bif (bif (bif (decide (a1.span.Lo≥a0.span.Lo)) then (decide (a1.span.Hi≤a0.span.Hi)) else false) then (decide (a1.span.Lo≤a1.span.Hi)) else false) then (decide (a2.span.Lo≥a0.span.Lo)) else false) then (decide (a2.span.Hi≤a0.span.Hi)) else false) then (a2.span.Lo==a2.span.Hi) else false)=true:=by
    rw [dT (show a1.span.Lo≥a0.span.Lo by omega),dT (show a1.span.Hi≤a0.span.Hi by omega),dT (show a1.span.Lo≤a1.span.Hi by omega),dT (show a2.span.Lo≥a0.span.Lo by omega),dT (show a2.span.Hi≤a0.span.Hi by omega),eqT pp];rfl
   rw [b,gdT (g:=true==true&&true) rfl,hwk];rfl
end Go.Proofs.YtkjnafecmjakcaaGreatDoor
