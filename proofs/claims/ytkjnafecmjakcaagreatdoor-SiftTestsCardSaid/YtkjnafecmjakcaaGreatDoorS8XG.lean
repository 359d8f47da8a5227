import Derived.Test.YtkjnafecmjakcaaGreatDoorS8XD
import Derived.Lib.DecodeN
set_option linter.unusedVariables false
set_option linter.unusedSimpArgs false
set_option linter.unusedSectionVars false
namespace Go.Proofs.YtkjnafecmjakcaaGreatDoor
open Go Go.RowKit Go.Eng
set_option maxRecDepth 10000
theorem ckb {β:Type} {x:Int} {f:Int->Option β} (h:-9000000000000000000<=x/\x<=9000000000000000000):(ck x).bind f=f x:=by
 unfold ck;rw [if_pos (by omega)];rfl
theorem gdT {α:Type} {g:Bool} {o:Option α} {d:α} (h:g=true):gd g o d=o:=by subst h;rfl
theorem gdF {α:Type} {g:Bool} {o:Option α} {d:α} (h:g=false):gd g o d=some d:=by subst h;rfl
theorem Az {α:Type} {c:Bool} {x y:α} (h:c=true):(bif c then x else y)=x:=by rw [h];rfl
theorem An {α:Type} {c:Bool} {x y:α} (h:c=false):(bif c then x else y)=y:=by rw [h];rfl
theorem sbd {α β:Type} {x:α} {f:α->Option β}:(some x).bind f=f x:=rfl
theorem dT {p:Prop} [Decidable p] (h:p):decide p=true:=decide_eq_true h
theorem dF {p:Prop} [Decidable p] (h:¬p):decide p=false:=decide_eq_false h
theorem Hp {α β:Type} {l:List α} {i:Int} {f:α->Option β} (n:Nat) (x:α) (hi:i=(n:Int)) (h:l[n]? = some x):(getI l i).bind f=f x:=by
 subst hi;unfold getI;rw [if_pos (by omega),show ((n:Int)).toNat=n by omega,h];rfl
theorem R8 {α β:Type} {x:α} {l:List α} {f:α->Option β}:(getI (x::l) 0).bind f=f x:=Hp 0 x rfl rfl
theorem Xh {α β:Type} {x y:α} {l:List α} {f:α->Option β}:(getI (x::y::l) 1).bind f=f y:=Hp 1 y rfl rfl
inductive T where
 | leaf (op v:Int)
 | un (op r g:Int) (a:T)
 | bin (op:Int) (a b:T)
 deriving DecidableEq,Inhabited
def T.op:T->Int
 | .leaf op _=>op
 | .un op _ _ _=>op
 | .bin op _ _=>op
def T.node:T->zA
 | .leaf op v=>⟨op,v,0,0,[]⟩
 | .un op r g a=>⟨op,0,r,g,[a.node]⟩
 | .bin op a b=>⟨op,0,0,0,[a.node,b.node]⟩
def T.size:T->Nat
 | .leaf _ _=>1
 | .un _ _ _ a=>1+a.size
 | .bin _ a b=>1+a.size+b.size
def T.depth:T->Nat
 | .leaf _ _=>1
 | .un _ _ _ a=>1+a.depth
 | .bin _ a b=>1+max a.depth b.depth
theorem A8j (t:T):t.node.Op=t.op:=by cases t<;>rfl
def okT:Bool->T->Prop
 | true,.leaf op v=>(op=1\/op=2)/\v=0
 | false,.leaf op v=>(op=14/\0<=v/\v<=1000000000)\/(15<=op/\op<=24/\v=0)
 | true,.un op r g a=>((op=3/\r=0/\g=0)\/((op=6\/op=7)/\0<=r/\r<=3/\0<=g/\g<=3))/\okT true a
 | false,.un op r g a=>(op=25/\0<=r/\r<=3/\0<=g/\g<=3)/\okT true a
 | true,.bin op a b=>((op=4\/op=5)/\okT true a/\okT true b)\/(8<=op/\op<=13/\okT false a/\okT false b)
 | false,.bin op a b=>(op=26\/op=27)/\okT false a/\okT false b/\b.op<26
theorem okT.kind:∀{t:T} {k:Bool},okT k t->sift_isCondition t.node=k/\sift_isValue t.node=!k:=by
 intro t k h;have key:∀op:Int,(k=true->1<=op/\op<=13)->(k=false->14<=op/\op<=27)->t.node.Op=op->sift_isCondition t.node=k/\sift_isValue t.node=!k:=by
  intro op h1 h2 h3;unfold sift_isCondition sift_isValue;rw [h3]
  cases k
  ·obtain ⟨a,b⟩:=h2 rfl;refine ⟨?_,?_⟩
   ·by_cases hc:op>=1
    ·rw [Az (dT hc)];exact dF (by omega)
    ·rw [An (dF hc)]
   ·rw [Az (dT (by omega))];exact dT (by omega)
  ·obtain ⟨a,b⟩:=h1 rfl;refine ⟨?_,?_⟩
   ·rw [Az (dT (by omega))];exact dT (by omega)
   ·rw [An (dF (by omega))];rfl
 cases t with
 | leaf op v=>cases k<;>simp only [okT] at h<;>exact key op (λe=>by cases e<;>omega) (λe=>by cases e<;>omega) rfl
 | un op r g a=>cases k<;>simp only [okT] at h<;>exact key op (λe=>by cases e<;>omega) (λe=>by cases e<;>omega) rfl
 | bin op a b=>cases k<;>simp only [okT] at h<;>exact key op (λe=>by cases e<;>omega) (λe=>by cases e<;>omega) rfl
theorem T.size_pos (t:T):1<=t.size:=by cases t<;>simp only [T.size]<;>omega
theorem T.depth_le (t:T):t.depth<=t.size:=by
 induction t with
 | leaf op v=>simp only [T.depth,T.size];omega
 | un op r g a ih=>simp only [T.depth,T.size];omega
 | bin op a b iha ihb=>simp only [T.depth,T.size];omega
theorem Xc (F:Nat) (p:zA) (m:Int):Bp (F+1) p m=Cg (Bp F) p m F 0 1:=rfl
theorem B13 {self_:zA->Int->Option Int} {p:zA} {m x y:Int} {n:Nat}:Cg self_ p m (n+1) x y=F9 self_ p m (Cg self_ p m n) x y:=rfl
theorem A2v {self_:zA->Int->Option Int} {p u:zA} {m x y z:Int} {n i:Nat} (hx:x=(i:Int)) (hi:p.Args[i]? = some u) (hl:p.Args.length<=2) (hm:y<=m) (hm2:0<=y/\m<=1000000) (hz:self_ u (m-y)=some z) (hz2:0<=z/\z<=1000000) :
  Cg self_ p m (n+1) x y=Cg self_ p m n (x+1) (y+z):=by
 have hlt:=(List.getElem?_eq_some_iff.1 hi).1;rw [B13,F9,Az (dT (by omega)),Hp i u hx hi,An (dF (by omega)),ckb (by omega),hz,sbd,ckb (by omega),ckb (by omega)]
theorem A0v {self_:zA->Int->Option Int} {p:zA} {m x y:Int} {n:Nat} (hx:(p.Args.length:Int)<=x):Cg self_ p m (n+1) x y=some y:=by
 rw [B13,F9,An (dF (by omega))];rfl
theorem Yx:∀(t:T) (F:Nat) (m:Int),t.size+4<=F->(t.size:Int)<=m->m<=1000000->Bp F t.node m=some (t.size:Int):=by
 intro t
 induction t with
 | leaf op v =>
  intro F m hF h1 h2;obtain ⟨F,rfl⟩:∃G,F=G+2:=⟨F-2,by simp only [T.size] at hF;omega⟩;rw [Xc];exact A0v (Int.le_refl _)
 | un op r g a ih =>
  intro F m hF h1 h2;simp only [T.size] at hF h1;have:=a.size_pos;obtain ⟨F,rfl⟩:∃G,F=G+3:=⟨F-3,by omega⟩;rw [Xc];rw [A2v (p:=(T.un op r g a).node) (x:=0) (y:=1) (i:=0) (u:=a.node) rfl rfl (by simp [T.node]) (by omega) (by omega) (ih (F+2) (m-1) (by omega) (by omega) (by omega)) (by omega),A0v (by simp [T.node])];simp only [T.size];congr 1
 | bin op a b iha ihb =>
  intro F m hF h1 h2;simp only [T.size] at hF h1;have:=a.size_pos;have:=b.size_pos;obtain ⟨F,rfl⟩:∃G,F=G+4:=⟨F-4,by omega⟩;rw [Xc];rw [A2v (p:=(T.bin op a b).node) (x:=0) (y:=1) (i:=0) (u:=a.node) rfl rfl (by simp [T.node]) (by omega) (by omega) (iha (F+3) (m-1) (by omega) (by omega) (by omega)) (by omega),
   A2v (p:=(T.bin op a b).node) (x:=0+1) (i:=1) (u:=b.node) rfl rfl (by simp [T.node]) (by omega) (by omega) (ihb (F+3) (m-(1+a.size)) (by omega) (by omega) (by omega)) (by omega),A0v (by simp [T.node])]
  simp only [T.size];congr 1
theorem A2y (F:Nat) (p:zA):Fo (F+1) p=E7 (Fo F) p F 0 0:=rfl
theorem dpL {self_:zA->Option Int} {p:zA} {x y:Int} {n:Nat}:E7 self_ p (n+1) x y=J3 self_ p (E7 self_ p n) x y:=rfl
theorem A6d {self_:zA->Option Int} {p u:zA} {x y z:Int} {n i:Nat} (hy:y=(i:Int)) (hi:p.Args[i]? = some u) (hl:p.Args.length<=2) (hz:self_ u=some z) :
  E7 self_ p (n+1) x y=E7 self_ p n (if z>x then z else x) (y+1):=by
 have hlt:=(List.getElem?_eq_some_iff.1 hi).1;rw [dpL,J3,Az (dT (by omega)),Hp i u hy hi,hz,sbd,ckb (by omega)]
theorem A2z {self_:zA->Option Int} {p:zA} {x y:Int} {n:Nat} (hy:(p.Args.length:Int)<=y) (hx:-9000000000<=x/\x<=9000000000):E7 self_ p (n+1) x y=some (x+1):=by
 rw [dpL,J3,An (dF (by omega)),Nn,ckb (by omega)]
theorem A3x:∀(t:T) (F:Nat),t.depth+4<=F->t.depth<=1000000->Fo F t.node=some (t.depth:Int):=by
 intro t
 induction t with
 | leaf op v =>
  intro F hF h1;obtain ⟨F,rfl⟩:∃G,F=G+2:=⟨F-2,by simp only [T.depth] at hF;omega⟩;rw [A2y];exact A2z (Int.le_refl _) (by omega)
 | un op r g a ih =>
  intro F hF h1;simp only [T.depth] at hF h1;obtain ⟨F,rfl⟩:∃G,F=G+3:=⟨F-3,by omega⟩;rw [A2y];rw [A6d (p:=(T.un op r g a).node) (y:=0) (i:=0) (u:=a.node) rfl rfl (by simp [T.node]) (ih (F+2) (by omega) (by omega)),A2z (by simp [T.node]) (by split<;>omega)];simp only [T.depth];congr 1;split<;>omega
 | bin op a b iha ihb =>
  intro F hF h1;simp only [T.depth] at hF h1;obtain ⟨F,rfl⟩:∃G,F=G+4:=⟨F-4,by omega⟩;rw [A2y];rw [A6d (p:=(T.bin op a b).node) (y:=0) (i:=0) (u:=a.node) rfl rfl (by simp [T.node]) (iha (F+3) (by omega) (by omega)),A6d (p:=(T.bin op a b).node) (y:=0+1) (i:=1) (u:=b.node) rfl rfl (by simp [T.node]) (ihb (F+3) (by omega) (by omega)),A2z (by simp [T.node]) (by split<;>split<;>omega)];simp only [T.depth];congr 1;split<;>split<;>omega
structure StL (self_:zA->Option Bool) (p:zA) (k:Bool) (L:Nat->Int->Option Bool):Prop where
 go:∀n (i:Nat) u,p.Args[i]? = some u->p.Args.length<=2->sift_isCondition u=k->sift_isValue u=!k->self_ u=some true->L (n+1) (i:Int)=L n ((i:Int)+1)
 fin:∀n x,(p.Args.length:Int)<=x->p.Op<26->L (n+1) x=some true
 fin2:∀n x u,(p.Args.length:Int)<=x->26<=p.Op->p.Args[1]? = some u->u.Op<26->L (n+1) x=some true
theorem B2a {self_:zA->Option Bool} {p:zA}:StL self_ p true (Jy self_ p):=by
 refine ⟨λn i u hi hl h1 h2 h3=>?_,λn x hx ho=>?_,λn x u hx ho hu hu2=>?_⟩
 ·have hlt:=(List.getElem?_eq_some_iff.1 hi).1;show Ch self_ p _ _=_;rw [Ch,Az (dT (by omega)),Hp i u rfl hi,h1,gdT (g:=(!true)==false&&true) rfl,h3,sbd,An (c:=bif (!true) then true else (!true)) rfl,ckb (by omega)]
 ·show Ch self_ p _ _=_;rw [Ch,An (dF (by omega)),Lu,Az (dT ho)]
 ·show Ch self_ p _ _=_;rw [Ch,An (dF (by omega)),Lu,An (dF (by omega)),Hp (i:=1) 1 u rfl hu,dT hu2]
theorem B2b {self_:zA->Option Bool} {p:zA}:StL self_ p true (Jz self_ p):=by
 refine ⟨λn i u hi hl h1 h2 h3=>?_,λn x hx ho=>?_,λn x u hx ho hu hu2=>?_⟩
 ·have hlt:=(List.getElem?_eq_some_iff.1 hi).1;show Ci self_ p _ _=_;rw [Ci,Az (dT (by omega)),Hp i u rfl hi,h1,gdT (g:=(!true)==false&&true) rfl,h3,sbd,An (c:=bif (!true) then true else (!true)) rfl,ckb (by omega)]
 ·show Ci self_ p _ _=_;rw [Ci,An (dF (by omega)),Lv,Az (dT ho)]
 ·show Ci self_ p _ _=_;rw [Ci,An (dF (by omega)),Lv,An (dF (by omega)),Hp (i:=1) 1 u rfl hu,dT hu2]
theorem B2c {self_:zA->Option Bool} {p:zA}:StL self_ p true (K0 self_ p):=by
 refine ⟨λn i u hi hl h1 h2 h3=>?_,λn x hx ho=>?_,λn x u hx ho hu hu2=>?_⟩
 ·have hlt:=(List.getElem?_eq_some_iff.1 hi).1;show Cj self_ p _ _=_;rw [Cj,Az (dT (by omega)),Hp i u rfl hi,h1,gdT (g:=(!true)==false&&true) rfl,h3,sbd,An (c:=bif (!true) then true else (!true)) rfl,ckb (by omega)]
 ·show Cj self_ p _ _=_;rw [Cj,An (dF (by omega)),Lw,Az (dT ho)]
 ·show Cj self_ p _ _=_;rw [Cj,An (dF (by omega)),Lw,An (dF (by omega)),Hp (i:=1) 1 u rfl hu,dT hu2]
theorem B2d {self_:zA->Option Bool} {p:zA}:StL self_ p false (K1 self_ p):=by
 refine ⟨λn i u hi hl h1 h2 h3=>?_,λn x hx ho=>?_,λn x u hx ho hu hu2=>?_⟩
 ·have hlt:=(List.getElem?_eq_some_iff.1 hi).1;show Ck self_ p _ _=_;rw [Ck,Az (dT (by omega)),Hp i u rfl hi,h2,gdT (g:=(!!false)==false&&true) rfl,h3,sbd,An (c:=bif (!!false) then true else (!true)) rfl,ckb (by omega)]
 ·show Ck self_ p _ _=_;rw [Ck,An (dF (by omega)),Lx,Az (dT ho)]
 ·show Ck self_ p _ _=_;rw [Ck,An (dF (by omega)),Lx,An (dF (by omega)),Hp (i:=1) 1 u rfl hu,dT hu2]
theorem A5d {g r v:Int} (hg:0<=g) (hr:0<=r) (hv:0<=v):¬(if g<if r<v then r else v then g else if r<v then r else v)<0:=by split<;>split<;>omega
theorem A5c {g r m:Int} (hg:g<=m) (hr:r<=m):¬(if g>r then g else r)>m:=by split<;>omega
theorem eqT {a b:Int} (h:a=b):(a==b)=true:=by subst h;exact beq_self_eq_true _
theorem eqF {a b:Int} (h:a≠b):(a==b)=false:=beq_eq_false_iff_ne.2 h
theorem neF {a b:Int} (h:a=b):(a != b)=false:=by subst h;simp
theorem neT {a b:Int} (h:a≠b):(a != b)=true:=by simp [h]
theorem Xw:∀(t:T) (k:Bool) (F:Nat),okT k t->t.size+5<=F->Bq F t.node=some true:=by
 intro t
 induction t with
 | leaf op v =>
  intro k F h hF;obtain ⟨F,rfl⟩:∃G,F=G+2:=⟨F-2,by simp only [T.size] at hF;omega⟩;have hk:=h.kind;show E6 (F+1) (Bq (F+1)) ⟨op,v,0,0,[]⟩=_;have h3:op≠3/\op≠4/\op≠5/\op≠6/\op≠7/\op≠25/\op≠26/\op≠27/\¬(8<=op/\op<=13)/\op<26/\0<=v/\(op=14->v<=1000000000)/\(op≠14->v=0):=by
   cases k<;>simp only [okT] at h<;>refine ⟨?_,?_,?_,?_,?_,?_,?_,?_,?_,?_,?_,?_,?_⟩<;>omega
  obtain ⟨a1,a2,a3,a4,a5,a6,a7,a8,a9,a10,a11,a12,a13⟩:=h3;have e8:(bif decide (op>=8) then decide (op<=13) else false)=false:=by
   by_cases hc:op>=8
   ·rw [Az (dT hc)];exact dF (by omega)
   ·rw [An (dF hc)]
  have hL:(([]:List zA).length:Int)=0:=rfl;unfold E6;dsimp only;rw [An (eqF a1),eqF a2,eqF a3,An (c:=false) rfl,An (c:=false) rfl,eqF a4,eqF a5,eqF a6,An (c:=false) rfl,An (c:=false) rfl,An (c:=false) rfl,e8,eqF a7,eqF a8,An (c:=false) rfl,An (c:=false) rfl,An (c:=false) rfl]
  by_cases h14:op=14
  ·rw [Az (eqT h14),hL,neF rfl,An (c:=false) rfl,dF (A5d (Int.le_refl 0) (Int.le_refl 0) a11),An (c:=false) rfl,dF (show ¬v>1000000000 by have:=a12 h14;omega),An (c:=false) rfl,dF (A5c (Int.le_refl 0) (Int.le_refl 0)),An (c:=false) rfl];show E8 _ _ _ _=_;rw [E8,An (dF (by simp)),Np,Az (dT a10)]
  ·have hv:=a13 h14;subst hv;rw [An (eqF h14)];have e9:(bif (!(sift_isCondition ⟨op,0,0,0,[]⟩)) then (!(sift_isValue ⟨op,0,0,0,[]⟩)) else false)=false:=by
    have h1:sift_isCondition ⟨op,0,0,0,[]⟩=k:=hk.1;have h2:sift_isValue ⟨op,0,0,0,[]⟩=!k:=hk.2;rw [h1,h2];cases k<;>rfl
   rw [An e9,hL,neF rfl,An (c:=false) rfl,dF (A5d (Int.le_refl 0) (Int.le_refl 0) (Int.le_refl 0)),An (c:=false) rfl,dF (show ¬(0:Int)>0 by omega),An (c:=false) rfl,dF (A5c (Int.le_refl 0) (Int.le_refl 0)),An (c:=false) rfl];show E9 _ _ _ _=_;rw [E9,An (dF (by simp)),Mu,Az (dT a10)]
 | un op r g a ih =>
  intro k F h hF;simp only [T.size] at hF;have:=a.size_pos;obtain ⟨F,rfl⟩:∃G,F=G+3:=⟨F-3,by omega⟩;show E6 (F+2) (Bq (F+2)) ⟨op,0,r,g,[a.node]⟩=_;have ha:okT true a:=by cases k<;>simp only [okT] at h<;>exact h.2
  have hs:=ih true (F+2) ha (by omega);have hk:=ha.kind;have hL:(([a.node]:List zA).length:Int)=1:=rfl;have fin:∀(L:Nat->Int->Option Bool),StL (Bq (F+2)) ⟨op,0,r,g,[a.node]⟩ true L->op<26->L (F+2) 0=some true:=λL hLL ho=>by
   have h1:=hLL.go (F+1) 0 a.node rfl (by simp) hk.1 hk.2 hs;have h2:=hLL.fin F ((0:Nat)+1:Int) (by simp) ho;exact h1.trans h2
  unfold E6;dsimp only
  by_cases h3:op=3
  ·have hrg:r=0/\g=0:=by cases k<;>simp only [okT] at h<;>omega
   obtain ⟨rfl,rfl⟩:=hrg;rw [Az (eqT h3),hL,neF rfl,An (c:=false) rfl,dF (A5d (Int.le_refl 0) (Int.le_refl 0) (Int.le_refl 0)),An (c:=false) rfl,dF (show ¬(0:Int)>0 by omega),An (c:=false) rfl,dF (A5c (Int.le_refl 0) (Int.le_refl 0)),An (c:=false) rfl];exact fin _ B2a (by omega)
  ·have hop:(op=6\/op=7\/op=25)/\0<=r/\r<=3/\0<=g/\g<=3:=by cases k<;>simp only [okT] at h<;>omega
   obtain ⟨hop,r1,r2,g1,g2⟩:=hop;have e6:(bif (bif (op==6) then true else (op==7)) then true else (op==25))=true:=by
    rcases hop with rfl|rfl|rfl<;>rfl
   rw [An (eqF h3),eqF (show op≠4 by omega),eqF (show op≠5 by omega),An (c:=false) rfl,An (c:=false) rfl,Az e6,hL,neF rfl,An (c:=false) rfl,dF (A5d g1 r1 (Int.le_refl 0)),An (c:=false) rfl,dF (show ¬(0:Int)>0 by omega),An (c:=false) rfl,dF (A5c g2 r2),An (c:=false) rfl];exact fin _ B2c (by omega)
 | bin op a b iha ihb =>
  intro k F h hF;simp only [T.size] at hF;have:=a.size_pos;have:=b.size_pos;obtain ⟨F,rfl⟩:∃G,F=G+4:=⟨F-4,by omega⟩;show E6 (F+3) (Bq (F+3)) ⟨op,0,0,0,[a.node,b.node]⟩=_;have hL:(([a.node,b.node]:List zA).length:Int)=2:=rfl;have fin:∀(q:Bool) (L:Nat->Int->Option Bool),StL (Bq (F+3)) ⟨op,0,0,0,[a.node,b.node]⟩ q L->okT q a->okT q b->(26<=op->b.op<26)->L (F+3) 0=some true:=λq L hLL ha hb ho=>by
   have h1:=hLL.go (F+2) 0 a.node rfl (by simp) ha.kind.1 ha.kind.2 (iha q (F+3) ha (by omega));have h2:=hLL.go (F+1) 1 b.node rfl (by simp) hb.kind.1 hb.kind.2 (ihb q (F+3) hb (by omega));have h3:L (F+1) ((1:Nat)+1:Int)=some true:=by
    by_cases hc:op<26
    ·exact hLL.fin F _ (by simp) hc
    ·exact hLL.fin2 F _ b.node (by simp) (by show 26<=op;omega) rfl (by rw [A8j];exact ho (by omega))
   exact h1.trans (h2.trans h3)
  unfold E6;dsimp only;have h3:op≠3:=by cases k<;>simp only [okT] at h<;>omega
  rw [An (eqF h3)]
  by_cases h4:op=4\/op=5
  ·have hab:okT true a/\okT true b:=by
    cases k<;>simp only [okT] at h
    ·omega
    ·rcases h with h|h
     ·exact h.2
     ·omega
   have e4:(bif (op==4) then true else (op==5))=true:=by rcases h4 with rfl|rfl<;>rfl
   rw [Az e4,hL,neF rfl,An (c:=false) rfl,dF (A5d (Int.le_refl 0) (Int.le_refl 0) (Int.le_refl 0)),An (c:=false) rfl,dF (show ¬(0:Int)>0 by omega),An (c:=false) rfl,dF (A5c (Int.le_refl 0) (Int.le_refl 0)),An (c:=false) rfl];exact fin true _ B2b hab.1 hab.2 (by omega)
  ·have hab:okT false a/\okT false b/\(26<=op->b.op<26)/\(8<=op/\op<=13\/op=26\/op=27):=by
    cases k<;>simp only [okT] at h
    ·exact ⟨h.2.1,h.2.2.1,λ_=>h.2.2.2,by omega⟩
    ·rcases h with h|h
     ·omega
     ·exact ⟨h.2.2.1,h.2.2.2,by omega,by omega⟩
   obtain ⟨ha,hb,ho,hop⟩:=hab;have e8:(bif (bif (bif decide (op>=8) then decide (op<=13) else false) then true else (op==26)) then true else (op==27))=true:=by
    rcases hop with ⟨h1,h2⟩|rfl|rfl
    ·rw [dT h1,dT h2];rfl
    ·rfl
    ·rfl
   rw [eqF (show op≠4 by omega),eqF (show op≠5 by omega),An (c:=false) rfl,An (c:=false) rfl,eqF (show op≠6 by omega),eqF (show op≠7 by omega),eqF (show op≠25 by omega),An (c:=false) rfl,An (c:=false) rfl,An (c:=false) rfl,Az e8,hL,neF rfl,An (c:=false) rfl,dF (A5d (Int.le_refl 0) (Int.le_refl 0) (Int.le_refl 0)),An (c:=false) rfl,dF (show ¬(0:Int)>0 by omega),An (c:=false) rfl,dF (A5c (Int.le_refl 0) (Int.le_refl 0)),An (c:=false) rfl];exact fin false _ B2d ha hb ho
def tb (l:List UInt8):ByteArray:=⟨l.toArray⟩
theorem B0s (a b:List UInt8):tb a++tb b=tb (a++b):=by
 apply ByteArray.ext;show (tb a++tb b).data=_;rw [ByteArray.data_append];simp [tb]
theorem A4k (a:List UInt8):(tb a).size=a.length:=by simp [tb,ByteArray.size]
theorem A7m {a b:List UInt8} (h:tb a=tb b):a=b:=by
 have:=congrArg (λx:ByteArray=>x.data.toList) h
 simpa [tb] using this
theorem Wd {β:Type} {a b:List UInt8} {f:ByteArray->Option β} (h:a.length+b.length<=9000000000):(Qd (tb a) (tb b)).bind f=f (tb (a++b)):=by
 unfold Qd;rw [if_pos (by rw [A4k,A4k];omega),sbd,B0s]
def wd (op:Int):List UInt8:=((Cl.1[op.toNat]?).getD ⟨#[]⟩).data.toList
theorem wdb {β:Type} {op:Int} {f:ByteArray->Option β} (h:0<=op/\op<=27):(A0z Cl op).bind f=f (tb (wd op)):=by
 unfold A0z;have hl:op.toNat<Cl.1.length:=by rw [Cl.2];omega
 rw [Hp op.toNat (Cl.1[op.toNat]) (by omega) (List.getElem?_eq_getElem hl)];unfold wd;rw [List.getElem?_eq_getElem hl]
 congr 1
def textT:T->List UInt8
 | .leaf op v=>if op=14 then Lib.itoa v else wd op
 | .un op r g a=>if op=3 then wd 3++(32::textT a) else wd op++(32::(Lib.itoa r++(32::(Lib.itoa g++(32::textT a)))))
 | .bin op a b=>if op<14 then 40::(textT a++(32::(wd op++(32::(textT b++[41]))))) else textT a++(32::(wd op++(32::textT b)))
theorem Y0 (op:Int):(wd op).length<=6:=by
 have key:∀i:Fin 28,((Cl.1[i.val]?).getD ⟨#[]⟩).data.toList.length<=6:=by decide
 unfold wd
 by_cases h:op.toNat<28
 ·exact key ⟨op.toNat,h⟩
 ·rw [List.getElem?_eq_none (by rw [Cl.2];omega)];simp
theorem A9h:∀(k u:Nat),u<10 ^ (k+1)->Lib.nDigits u<=k+1
 | 0,u,h=>by rw [Lib.nDigits_small (by simpa using h)];omega
 | k+1,u,h=>by
  by_cases hu:u<10
  ·rw [Lib.nDigits_small hu];omega
  ·rw [Lib.nDigits_big hu];have:=A9h k (u/10) (by rw [Nat.pow_succ] at h;omega);omega
theorem U2 {v:Int} (h:0<=v/\v<=1000000000):(Lib.itoa v).length<=10:=by
 obtain ⟨u,rfl⟩:∃u:Nat,v=u:=⟨v.toNat,by omega⟩;rw [Lib.itoa_nonneg,Lib.decDigits_length];exact A9h 9 u (by omega)
theorem Zn:∀(t:T) (k:Bool),okT k t->(textT t).length<=40*t.size:=by
 intro t
 induction t with
 | leaf op v =>
  intro k h;simp only [textT,T.size]
  split
  ·have:=U2 (v:=v) (by cases k<;>simp only [okT] at h<;>omega);omega
  ·have:=Y0 op;omega
 | un op r g a ih =>
  intro k h;have ha:okT true a:=by cases k<;>simp only [okT] at h<;>exact h.2
  have h1:=ih true ha;have hr:0<=r/\r<=1000000000:=by cases k<;>simp only [okT] at h<;>omega
  have hg:0<=g/\g<=1000000000:=by cases k<;>simp only [okT] at h<;>omega
  have:=U2 hr;have:=U2 hg;have:=Y0 op;have:=Y0 3;simp only [textT,T.size]
  split<;>simp only [List.length_append,List.length_cons]<;>omega
 | bin op a b iha ihb =>
  intro k h;have hab:(∃q,okT q a)/\∃q,okT q b:=by
   cases k<;>simp only [okT] at h
   ·exact ⟨⟨_,h.2.1⟩,⟨_,h.2.2.1⟩⟩
   ·rcases h with h|h
    ·exact ⟨⟨_,h.2.1⟩,⟨_,h.2.2⟩⟩
    ·exact ⟨⟨_,h.2.2.1⟩,⟨_,h.2.2.2⟩⟩
  obtain ⟨⟨q,ha⟩,q',hb⟩:=hab;have:=iha q ha;have:=ihb q' hb;have:=Y0 op;simp only [textT,T.size]
  split<;>simp only [List.length_append,List.length_cons,List.length_nil]<;>omega
theorem A6p {β:Type} {F:Nat} {v:Int} {f:ByteArray->Option β} (h:0<=v/\v<=1000000000):(strconv_Itoa F v).bind f=f (tb (Lib.itoa v)):=by
 unfold strconv_Itoa;rw [if_pos (by omega),sbd];rfl
theorem A3m (F:Nat) (p:zA):Dg (F+1) p=Gv F (Dg F) p:=rfl
theorem A7j:(⟨#[32]⟩:ByteArray)=tb [32]:=rfl
theorem V3:∀(t:T) (k:Bool) (F:Nat),okT k t->t.size+2<=F->t.size<=1000000->Dg F t.node=some (tb (textT t)):=by
 intro t
 induction t with
 | leaf op v =>
  intro k F h hF _;obtain ⟨F,rfl⟩:∃G,F=G+1:=⟨F-1,by simp only [T.size] at hF;omega⟩;have h0:0<=op/\op<=27:=by cases k<;>simp only [okT] at h<;>omega
  rw [A3m];show Gv F _ ⟨op,v,0,0,[]⟩=_;unfold Gv;dsimp only;rw [wdb h0]
  by_cases h14:op=14
  ·rw [Az (eqT h14),A6p (by cases k<;>simp only [okT] at h<;>omega)]
   simp only [textT,if_pos h14]
  ·rw [An (eqF h14),An (eqF (show op≠3 by cases k<;>simp only [okT] at h<;>omega)),An (eqF (show (([]:List zA).length:Int)≠1 by simp)),Az (eqT (show (([]:List zA).length:Int)=0 by simp))]
   simp only [textT,if_neg h14]
 | un op r g a ih =>
  intro k F h hF hs;simp only [T.size] at hF hs;obtain ⟨F,rfl⟩:∃G,F=G+1:=⟨F-1,by omega⟩;have h0:0<=op/\op<=27/\op≠14:=by cases k<;>simp only [okT] at h<;>omega
  have ha:okT true a:=by cases k<;>simp only [okT] at h<;>exact h.2
  have hr:0<=r/\r<=1000000000:=by cases k<;>simp only [okT] at h<;>omega
  have hg:0<=g/\g<=1000000000:=by cases k<;>simp only [okT] at h<;>omega
  have hi:=ih true F ha (by omega) (by omega);have hl:=Zn a true ha;have l1:=U2 hr;have l2:=U2 hg;have l3:=Y0 op;rw [A3m];show Gv F _ ⟨op,0,r,g,[a.node]⟩=_;unfold Gv;dsimp only;rw [wdb ⟨h0.1,h0.2.1⟩,An (eqF h0.2.2)]
  by_cases h3:op=3
  ·subst h3;rw [Az (eqT rfl),A7j,Wd (by simp;omega),R8,hi,sbd,Wd (by simp;omega)];simp only [textT,if_pos,List.append_assoc,List.singleton_append]
  ·rw [An (eqF h3),Az (eqT (show (([a.node]:List zA).length:Int)=1 by simp)),A7j,Wd (by simp;omega),A6p hr,Wd (by simp;omega),Wd (by simp;omega),A6p hg,Wd (by simp;omega),Wd (by simp;omega),R8,hi,sbd,Wd (by simp;omega)];simp only [textT,if_neg h3,List.append_assoc,List.singleton_append,List.cons_append,List.nil_append]
 | bin op a b iha ihb =>
  intro k F h hF hs;simp only [T.size] at hF hs;obtain ⟨F,rfl⟩:∃G,F=G+1:=⟨F-1,by omega⟩;have h0:0<=op/\op<=27/\op≠14/\op≠3:=by cases k<;>simp only [okT] at h<;>omega
  have hab:(∃q,okT q a)/\∃q,okT q b:=by
   cases k<;>simp only [okT] at h
   ·exact ⟨⟨_,h.2.1⟩,⟨_,h.2.2.1⟩⟩
   ·rcases h with h|h
    ·exact ⟨⟨_,h.2.1⟩,⟨_,h.2.2⟩⟩
    ·exact ⟨⟨_,h.2.2.1⟩,⟨_,h.2.2.2⟩⟩
  obtain ⟨⟨q,ha⟩,q',hb⟩:=hab;have hia:=iha q F ha (by omega) (by omega);have hib:=ihb q' F hb (by omega) (by omega);have hl:=Zn a q ha;have hl2:=Zn b q' hb;have l3:=Y0 op;rw [A3m];show Gv F _ ⟨op,0,0,0,[a.node,b.node]⟩=_;unfold Gv;dsimp only;rw [wdb ⟨h0.1,h0.2.1⟩,An (eqF h0.2.2.1),An (eqF h0.2.2.2),An (eqF (show (([a.node,b.node]:List zA).length:Int)≠1 by simp)),An (eqF (show (([a.node,b.node]:List zA).length:Int)≠0 by simp)),
   R8,hia,sbd,A7j,Wd (by simp;omega),Wd (by simp;omega),Wd (by simp;omega),Xh,hib,sbd,Wd (by simp;omega)]
  by_cases h14:op<14
  ·rw [Az (dT h14),show (⟨#[40]⟩:ByteArray)=tb [40] from rfl,show (⟨#[41]⟩:ByteArray)=tb [41] from rfl,Wd (by simp;omega),Wd (by simp;omega)];simp only [textT,if_pos h14,List.append_assoc,List.singleton_append,List.cons_append,List.nil_append]
  ·rw [An (dF h14)];simp only [textT,if_neg h14,List.append_assoc,List.singleton_append,List.cons_append,List.nil_append]
def Sk (c:UInt8):Bool:=decide (48<=c.toNat)&&decide (c.toNat<=57)
def Yr (u:List UInt8):Prop:=∀c r,u=c::r->Sk c=false
def Y1 (u:List UInt8):Prop:=Yr u/\∀c r,u=32::c::r->c≠43/\c≠45
theorem V1 (r:List UInt8):Yr (32::r):=λc q h=>by cases h;rfl
theorem A2x:∀(n:Nat),∀c∈Lib.decDigits n,Sk c=true:=by
 intro n
 induction n using Nat.strongRecOn with
 | _ n ih =>
  have one:∀i:Fin 10,Sk (UInt8.ofNat (48+i.val))=true:=by decide
  intro c hc;rw [Lib.decDigits] at hc
  split at hc
  ·rename_i h
   rw [List.mem_singleton] at hc;subst hc;exact one ⟨n,h⟩
  ·rcases List.mem_append.1 hc with hc|hc
   ·exact ih (n/10) (by omega) c hc
   ·rw [List.mem_singleton] at hc;subst hc;exact one ⟨n%10,Nat.mod_lt _ (by omega)⟩
def A7q (l:List UInt8):Nat:=l.foldl (λa c=>10*a+(c.toNat-48)) 0
theorem A3w (n:Nat):A7q (Lib.decDigits n)=n:=by
 induction n using Nat.strongRecOn with
 | _ n ih =>
  have one:∀i:Fin 10,(UInt8.ofNat (48+i.val)).toNat-48=i.val:=by decide
  rw [Lib.decDigits]
  split
  ·rename_i h
   show 10*0+((UInt8.ofNat (48+n)).toNat-48)=n;rw [one ⟨n,h⟩];show 10*0+n=n;omega
  ·have e:=ih (n/10) (by omega);unfold A7q at e ⊢;rw [List.foldl_append,e];show 10*(n/10)+((UInt8.ofNat (48+n%10)).toNat-48)=n;rw [one ⟨n%10,Nat.mod_lt _ (by omega)⟩];show 10*(n/10)+n%10=n;omega
theorem A4j {l x:List UInt8} (hl:∀c∈l,Sk c=true) (hx:Yr x):(l++x).takeWhile Sk=l:=by
 induction l with
 | nil =>
  cases x with
  | nil=>rfl
  | cons c r=>simp [hx c r rfl]
 | cons c l ih=>simp [hl c (by simp),ih (λd hd=>hl d (by simp [hd]))]
theorem A3c {v v':Int} {x y:List UInt8} (h0:0<=v) (h1:0<=v') (hx:Yr x) (hy:Yr y) (h:Lib.itoa v++x=Lib.itoa v'++y):v=v'/\x=y:=by
 obtain ⟨a,rfl⟩:∃a:Nat,v=a:=⟨v.toNat,by omega⟩;obtain ⟨b,rfl⟩:∃b:Nat,v'=b:=⟨v'.toNat,by omega⟩;rw [Lib.itoa_nonneg,Lib.itoa_nonneg] at h;have e:=congrArg (List.takeWhile Sk) h;rw [A4j (A2x a) hx,A4j (A2x b) hy] at e;have e2:=congrArg A7q e;rw [A3w,A3w] at e2;subst e2;exact ⟨rfl,List.append_cancel_left h⟩
theorem A58 {v:Int} (h:0<=v):∃c r,Lib.itoa v=c::r/\Sk c=true:=by
 obtain ⟨a,rfl⟩:∃a:Nat,v=a:=⟨v.toNat,by omega⟩;rw [Lib.itoa_nonneg]
 cases hd:Lib.decDigits a with
 | nil =>
  have:=Lib.decDigits_length a;rw [hd] at this;have:=Lib.nDigits_pos a;simp at *;omega
 | cons c r=>exact ⟨c,r,rfl,A2x a c (by rw [hd];simp)⟩
def Wl:List Int:=[1,2,3,6,7,15,16,17,18,19,20,21,22,23,24,25]
def X6:List Int:=[4,5,8,9,10,11,12,13]
theorem Z4:∀a∈Wl,∀b∈Wl,List.isPrefixOf (wd a) (wd b)=true->a=b:=by decide
theorem Zl:∀a∈X6,∀b∈X6,List.isPrefixOf (wd a++[32]) (wd b++[32])=true->a=b:=by decide
theorem A53:∀a∈Wl,∃c r,wd a=c::r/\Sk c=false/\c≠40:=by
 intro a ha;have key:∀a∈Wl,(match wd a with|[]=>false|c::_=>!Sk c&&decide (c≠40))=true:=by decide
 have:=key a ha
 cases hw:wd a with
 | nil=>rw [hw] at this;cases this
 | cons c r =>
  rw [hw] at this;simp at this;exact ⟨c,r,rfl,this.1,this.2⟩
theorem A99 {a b:Int} {x y:List UInt8} (ha:a∈Wl) (hb:b∈Wl) (h:wd a++x=wd b++y):a=b/\x=y:=by
 have hp:wd a <+: wd b\/wd b <+: wd a:=List.prefix_or_prefix_of_prefix (l₃:=wd a++x) (List.prefix_append _ _) (h▸List.prefix_append _ _);have e:a=b:=by
  rcases hp with hp|hp
  ·exact Z4 a ha b hb (List.isPrefixOf_iff_prefix.2 hp)
  ·exact (Z4 b hb a ha (List.isPrefixOf_iff_prefix.2 hp)).symm
 subst e;exact ⟨rfl,List.append_cancel_left h⟩
theorem A8x {a b:Int} {x y:List UInt8} (ha:a∈X6) (hb:b∈X6) (h:wd a++(32::x)=wd b++(32::y)):a=b/\x=y:=by
 have h2:(wd a++[32])++x=(wd b++[32])++y:=by simpa using h
 have hp:(wd a++[32]) <+: (wd b++[32])\/(wd b++[32]) <+: (wd a++[32]):=List.prefix_or_prefix_of_prefix (l₃:=(wd a++[32])++x) (List.prefix_append _ _) (h2▸List.prefix_append _ _);have e:a=b:=by
  rcases hp with hp|hp
  ·exact Zl a ha b hb (List.isPrefixOf_iff_prefix.2 hp)
  ·exact (Zl b hb a ha (List.isPrefixOf_iff_prefix.2 hp)).symm
 subst e;exact ⟨rfl,List.append_cancel_left h2⟩
theorem Yd:∀a∈X6,∀r,Y1 (32::(wd a++r)):=by
 intro a ha r;have key:∀a∈X6,(match wd a with|[]=>false|c::_=>decide (c≠43)&&decide (c≠45))=true:=by decide
 have:=key a ha;refine ⟨V1 _,λc q h=>?_⟩
 cases hw:wd a with
 | nil=>rw [hw] at this;cases this
 | cons d s =>
  rw [hw] at this h;simp at this h;rw [←h.1];exact this
def T.hd:T->T
 | .bin op a b=>if op<14 then .bin op a b else a.hd
 | t=>t
def T.tl:T->List (Int×T)
 | .bin op a b=>if op<14 then [] else a.tl++[(op,b)]
 | _=>[]
def T.mk (h:T) (l:List (Int×T)):T:=l.foldl (λa p=>.bin p.1 a p.2) h
theorem T.eta (t:T):T.mk t.hd t.tl=t:=by
 induction t with
 | leaf op v=>rfl
 | un op r g a ih=>rfl
 | bin op a b iha ihb =>
  unfold T.hd T.tl
  split
  ·rfl
  ·unfold T.mk at *;rw [List.foldl_append,iha];rfl
def R7 (l:List (Int×T)):List UInt8:=l.flatMap λp=>32::(wd p.1++(32::textT p.2))
theorem A2k (t:T):textT t=textT t.hd++R7 t.tl:=by
 induction t with
 | leaf op v=>simp [T.hd,T.tl,R7]
 | un op r g a ih=>simp [T.hd,T.tl,R7]
 | bin op a b iha ihb =>
  by_cases h:op<14
  ·simp only [T.hd,T.tl,if_pos h,R7,List.flatMap_nil,List.append_nil]
  ·simp only [T.hd,T.tl,if_neg h];rw [textT,if_neg h,iha];unfold R7;simp
def Itm (t:T):Prop:=t.op<26/\∃k,okT k t
theorem T.hd_size (t:T):t.hd.size<=t.size:=by
 induction t with
 | leaf op v=>exact Nat.le_refl _
 | un op r g a ih=>exact Nat.le_refl _
 | bin op a b iha ihb =>
  unfold T.hd
  split
  ·exact Nat.le_refl _
  ·simp only [T.size];omega
theorem A9f:∀(t:T) (k:Bool),okT k t->Itm t.hd/\∀p∈t.tl,(p.1=26\/p.1=27)/\Itm p.2/\p.2.size<t.size:=by
 intro t
 induction t with
 | leaf op v=>intro k h;exact ⟨⟨by show op<26;cases k<;>simp only [okT] at h<;>omega,k,h⟩,λp hp=>by simp [T.tl] at hp⟩
 | un op r g a ih=>intro k h;exact ⟨⟨by show op<26;cases k<;>simp only [okT] at h<;>omega,k,h⟩,λp hp=>by simp [T.tl] at hp⟩
 | bin op a b iha ihb =>
  intro k h
  by_cases hop:op<14
  ·simp only [T.hd,T.tl,if_pos hop];exact ⟨⟨by show op<26;omega,k,h⟩,λp hp=>by simp at hp⟩
  ·simp only [T.hd,T.tl,if_neg hop];have hk:(op=26\/op=27)/\okT false a/\okT false b/\b.op<26:=by
    cases k<;>simp only [okT] at h
    ·exact h
    ·omega
   obtain ⟨h1,h2,h3,h4⟩:=hk;obtain ⟨i1,i2⟩:=iha false h2;refine ⟨i1,λp hp=>?_⟩;rcases List.mem_append.1 hp with hp|hp
   ·obtain ⟨j1,j2,j3⟩:=i2 p hp;exact ⟨j1,j2,by simp only [T.size];omega⟩
   ·simp at hp;subst hp;exact ⟨h1,⟨h4,_,h3⟩,by simp only [T.size];have:=a.size_pos;omega⟩
def PCi (n:Nat):Prop:=∀t t':T,t.size<=n->Itm t->Itm t'->∀u u',Yr u->Yr u'->textT t++u=textT t'++u'->t=t'/\u=u'
def PCa (n:Nat):Prop:=∀(t t':T) (k k':Bool),t.size<=n->okT k t->okT k' t'->∀u u',Y1 u->Y1 u'->textT t++u=textT t'++u'->t=t'/\u=u'
theorem V2 {l:List (Int×T)} {u:List UInt8} (h:Yr u):Yr (R7 l++u):=by
 cases l with
 | nil=>exact h
 | cons p l=>exact V1 _
theorem A97:wd 26=[43]:=by decide
theorem A98:wd 27=[45]:=by decide
theorem A93 {n:Nat} (hP:PCi n):∀(l l':List (Int×T)),(∀p∈l,(p.1=26\/p.1=27)/\Itm p.2/\p.2.size<=n)->(∀p∈l',(p.1=26\/p.1=27)/\Itm p.2)->∀u u',Y1 u->Y1 u'->R7 l++u=R7 l'++u'->l=l'/\u=u':=by
 have no:∀(p:Int×T) (l:List (Int×T)) (u u':List UInt8),(p.1=26\/p.1=27)->Y1 u->R7 (p::l)++u'=u->False:=by
  intro p l u u' hp hu h;have e:∃c r,u=32::c::r/\(c=43\/c=45):=by
   rw [←h];simp only [R7,List.flatMap_cons,List.cons_append,List.append_assoc];rcases hp with hp|hp
   ·rw [hp,A97];exact ⟨43,_,rfl,.inl rfl⟩
   ·rw [hp,A98];exact ⟨45,_,rfl,.inr rfl⟩
  obtain ⟨c,r,e1,e2⟩:=e;have:=hu.2 c r e1;rcases e2 with rfl|rfl
  ·exact this.1 rfl
  ·exact this.2 rfl
 intro l
 induction l with
 | nil =>
  intro l' _ h2 u u' hu hu' h
  cases l' with
  | nil=>exact ⟨rfl,h⟩
  | cons p l'=>exact (no p l' u u' (h2 p (by simp)).1 hu h.symm).elim
 | cons p l ih =>
  intro l' h1 h2 u u' hu hu' h
  cases l' with
  | nil=>exact (no p l u' u (h1 p (by simp)).1 hu' h).elim
  | cons p' l' =>
   obtain ⟨o1,i1,s1⟩:=h1 p (by simp);obtain ⟨o2,i2⟩:=h2 p' (by simp);simp only [R7,List.flatMap_cons,List.cons_append,List.append_assoc] at h;have h:=(List.cons.inj h).2;have e:p.1=p'.1/\textT p.2++(R7 l++u)=textT p'.2++(R7 l'++u'):=by
    rcases o1 with o1|o1<;>rcases o2 with o2|o2<;>rw [o1,o2] at h ⊢
    ·exact ⟨rfl,by simpa [A97,R7] using h⟩
    ·rw [A97,A98] at h;simp at h
    ·rw [A97,A98] at h;simp at h
    ·exact ⟨rfl,by simpa [A98,R7] using h⟩
   obtain ⟨e1,e2⟩:=hP p.2 p'.2 s1 i1 i2 _ _ (V2 hu.1) (V2 hu'.1) e.2;obtain ⟨e3,e4⟩:=ih l' (λq hq=>h1 q (by simp [hq])) (λq hq=>h2 q (by simp [hq])) u u' hu hu' e2;refine ⟨?_,e4⟩;rw [e3,show p=p' from Prod.ext e.1 e1]
theorem PCi.all {n:Nat} (h:PCi n):PCa n:=by
 intro t t' k k' hs h1 h2 u u' hu hu' he;obtain ⟨a1,a2⟩:=A9f t k h1;obtain ⟨b1,b2⟩:=A9f t' k' h2;rw [A2k t,A2k t',List.append_assoc,List.append_assoc] at he;obtain ⟨e1,e2⟩:=h t.hd t'.hd (Nat.le_trans t.hd_size hs) a1 b1 _ _ (V2 hu.1) (V2 hu'.1) he;obtain ⟨e3,e4⟩:=A93 h t.tl t'.tl (λp hp=>⟨(a2 p hp).1,(a2 p hp).2.1,by have:=(a2 p hp).2.2;omega⟩) (λp hp=>⟨(b2 p hp).1,(b2 p hp).2.1⟩) u u' hu hu' e2;refine ⟨?_,e4⟩;rw [←t.eta,←t'.eta,e1,e3]
theorem A4p {c:UInt8} {x y:List UInt8} (h:c::x=c::y):x=y:=(List.cons.inj h).2
theorem Xl {op:Int} (h:op=1\/op=2\/op=3\/op=6\/op=7\/(15<=op/\op<=25)):op∈Wl:=by
 have:op=1\/op=2\/op=3\/op=6\/op=7\/op=15\/op=16\/op=17\/op=18\/op=19\/op=20\/op=21\/op=22\/op=23\/op=24\/op=25:=by omega
 simp [Wl];omega
theorem A0l {op:Int} (h:op=4\/op=5\/(8<=op/\op<=13)):op∈X6:=by simp [X6];omega
inductive Beg where
 | num (v:Int)
 | word (op:Int) (r:List UInt8)
 | open_ (r:List UInt8)
def Beg.tx:Beg->List UInt8
 | .num v=>Lib.itoa v
 | .word op r=>wd op++r
 | .open_ r=>40::r
def Beg.ok:Beg->Prop
 | .num v=>0<=v
 | .word op _=>op∈Wl
 | .open_ _=>True
theorem A9s {a b:Beg} {u u':List UInt8} (ha:a.ok) (hb:b.ok) (hu:Yr u) (hu':Yr u') (h:a.tx++u=b.tx++u') :
  (∃v,a=.num v/\b=.num v/\u=u')\/(∃op r r',a=.word op r/\b=.word op r'/\r++u=r'++u')\/∃r r',a=.open_ r/\b=.open_ r'/\r++u=r'++u':=by
 have first:∀(x:Beg),x.ok->∀w,∃c q,x.tx++w=c::q/\(match x with|.num _=>Sk c=true|.word _ _=>Sk c=false/\c≠40|.open_ _=>c=40):=by
  intro x hx w
  cases x with
  | num v =>
   obtain ⟨c,r,e,hd⟩:=A58 hx;exact ⟨c,r++w,by show Lib.itoa v++w=_;rw [e];rfl,hd⟩
  | word op r =>
   obtain ⟨c,s,e,h1,h2⟩:=A53 op hx;exact ⟨c,s++r++w,by show wd op++r++w=_;rw [e];rfl,h1,h2⟩
  | open_ r=>exact ⟨40,r++w,rfl,rfl⟩
 obtain ⟨c,q,e1,k1⟩:=first a ha u
 obtain ⟨c',q',e2,k2⟩:=first b hb u'
 have hc:c=c':=by rw [e1,e2] at h;exact (List.cons.inj h).1
 subst hc;have d40:Sk 40=false:=by decide
 cases a with
 | num v =>
  cases b with
  | num v' =>
   obtain ⟨rfl,e⟩:=A3c ha hb hu hu' h;exact .inl ⟨v,rfl,rfl,e⟩
  | word op r =>
   have k1:Sk c=true:=k1;have k2:Sk c=false/\c≠40:=k2;rw [k1] at k2;cases k2.1
  | open_ r =>
   have k1:Sk c=true:=k1;have k2:c=40:=k2;subst k2;rw [d40] at k1;cases k1
 | word op r =>
  cases b with
  | num v' =>
   have k1:Sk c=false/\c≠40:=k1;have k2:Sk c=true:=k2;rw [k2] at k1;cases k1.1
  | word op' r' =>
   have h:wd op++r++u=wd op'++r'++u':=h;rw [List.append_assoc,List.append_assoc] at h;obtain ⟨rfl,e⟩:=A99 ha hb h;exact .inr (.inl ⟨op,r,r',rfl,rfl,e⟩)
  | open_ r' =>
   have k1:Sk c=false/\c≠40:=k1;have k2:c=40:=k2;exact (k1.2 k2).elim
 | open_ r =>
  have k1:c=40:=k1
  cases b with
  | num v' =>
   have k2:Sk c=true:=k2;subst k1;rw [d40] at k2;cases k2
  | word op' r' =>
   have k2:Sk c=false/\c≠40:=k2;exact (k2.2 k1).elim
  | open_ r'=>exact .inr (.inr ⟨r,r',rfl,rfl,(List.cons.inj h).2⟩)
def T.beg:T->Beg
 | .leaf op v=>if op=14 then .num v else .word op []
 | .un op r g a=>if op=3 then .word 3 (32::textT a) else .word op (32::(Lib.itoa r++(32::(Lib.itoa g++(32::textT a)))))
 | .bin op a b=>.open_ (textT a++(32::(wd op++(32::(textT b++[41])))))
theorem A63 {t:T} (h:Itm t):t.beg.ok/\textT t=t.beg.tx:=by
 obtain ⟨h1,k,h2⟩:=h
 cases t with
 | leaf op v =>
  have h1:op<26:=h1
  by_cases q:op=14
  ·simp only [T.beg,textT,if_pos q];exact ⟨by show 0<=v;cases k<;>simp only [okT] at h2<;>omega,rfl⟩
  ·simp only [T.beg,textT,if_neg q];exact ⟨Xl (by cases k<;>simp only [okT] at h2<;>omega),(List.append_nil _).symm⟩
 | un op r g a =>
  have h1:op<26:=h1
  by_cases q:op=3
  ·simp only [T.beg,textT,if_pos q];exact ⟨Xl (by omega),rfl⟩
  ·simp only [T.beg,textT,if_neg q];exact ⟨Xl (by cases k<;>simp only [okT] at h2<;>omega),rfl⟩
 | bin op a b =>
  have h3:op<14:=by
   have h1:op<26:=h1
   cases k<;>simp only [okT] at h2<;>omega
  simp only [T.beg,textT,if_pos h3];exact ⟨trivial,rfl⟩
theorem A4r (op v:Int):(op=14/\(T.leaf op v).beg=.num v)\/(op≠14/\(T.leaf op v).beg=.word op []):=by
 by_cases q:op=14
 ·exact .inl ⟨q,by simp only [T.beg,if_pos q]⟩
 ·exact .inr ⟨q,by simp only [T.beg,if_neg q]⟩
theorem A4s (op r g:Int) (a:T):(op=3/\(T.un op r g a).beg=.word 3 (32::textT a))\/(op≠3/\(T.un op r g a).beg=.word op (32::(Lib.itoa r++(32::(Lib.itoa g++(32::textT a)))))):=by
 by_cases q:op=3
 ·exact .inl ⟨q,by simp only [T.beg,if_pos q]⟩
 ·exact .inr ⟨q,by simp only [T.beg,if_neg q]⟩
theorem A7x (op:Int) (a b:T):(T.bin op a b).beg=.open_ (textT a++(32::(wd op++(32::(textT b++[41]))))):=rfl
theorem okL {k:Bool} {op v:Int} (h:okT k (.leaf op v)):0<=v/\(op≠14->v=0)/\op≠3/\(op<7\/op=14\/(15<=op/\op<=25)):=by cases k<;>simp only [okT] at h<;>omega
theorem okU {k:Bool} {op r g:Int} {x:T} (h:okT k (.un op r g x)):okT true x/\0<=r/\0<=g/\(op=3->r=0/\g=0):=by
 cases k<;>simp only [okT] at h
 ·exact ⟨h.2,by omega,by omega,by omega⟩
 ·exact ⟨h.2,by omega,by omega,by omega⟩
theorem A8l {k k':Bool} {op v r g:Int} {x:T} (h:okT k (.leaf op v)) (h':okT k' (.un op r g x)):False:=by cases k<;>cases k'<;>simp only [okT] at h h'<;>omega
theorem okB {k:Bool} {op:Int} {a b:T} (h:okT k (.bin op a b)) (h2:op<26):(∃q,okT q a)/\(∃q,okT q b)/\op∈X6:=by
 cases k<;>simp only [okT] at h
 ·omega
 ·rcases h with h|h
  ·exact ⟨⟨_,h.2.1⟩,⟨_,h.2.2⟩,A0l (by omega)⟩
  ·exact ⟨⟨_,h.2.2.1⟩,⟨_,h.2.2.2⟩,A0l (by omega)⟩
theorem Wp {x:T} (h:okT true x):Itm x:=⟨by cases x<;>simp only [okT] at h<;>simp only [T.op]<;>omega,_,h⟩
theorem A8n:∀n,PCi n:=by
 intro n
 induction n with
 | zero=>intro t t' hs;have:=t.size_pos;omega
 | succ n ih =>
  have hA:=ih.all;intro t t' hs h1 h2 u u' hu hu' he;obtain ⟨a1,a2⟩:=A63 h1;obtain ⟨b1,b2⟩:=A63 h2;rw [a2,b2] at he;obtain ⟨h3,k,h4⟩:=h1;obtain ⟨h5,k',h6⟩:=h2;have paren:∀r,Y1 (41::r):=λr=>⟨λc q h=>by cases h;rfl,λc q h=>by cases h⟩
  have he:=A9s a1 b1 hu hu' he
  cases t with
  | leaf op1 w =>
   obtain ⟨o1,o2,-,-⟩:=okL h4
   cases t' with
   | leaf op2 w' =>
    obtain ⟨o3,o4,-,-⟩:=okL h6;rcases A4r op1 w with ⟨q1,q2⟩|⟨q1,q2⟩<;>rcases A4r op2 w' with ⟨q3,q4⟩|⟨q3,q4⟩<;>rw [q2,q4] at he <;>
     rcases he with ⟨v,e1,e2,e3⟩|⟨op,r,r',e1,e2,e3⟩|⟨r,r',e1,e2,e3⟩<;>cases e1<;>cases e2
    ·exact ⟨by rw [q1,q3],e3⟩
    ·exact ⟨by rw [o2 q1,o4 q1],e3⟩
   | un op2 r2 g2 y =>
    exfalso;rcases A4r op1 w with ⟨q1,q2⟩|⟨q1,q2⟩<;>rcases A4s op2 r2 g2 y with ⟨q3,q4⟩|⟨q3,q4⟩<;>rw [q2,q4] at he <;>
     rcases he with ⟨v,e1,e2,e3⟩|⟨op,r,r',e1,e2,e3⟩|⟨r,r',e1,e2,e3⟩<;>cases e1<;>cases e2
    ·subst q3;exact A8l h4 h6
    ·exact A8l h4 h6
   | bin op2 a' b' =>
    exfalso;rcases A4r op1 w with ⟨q1,q2⟩|⟨q1,q2⟩<;>rw [q2,A7x] at he <;>
     rcases he with ⟨v,e1,e2,e3⟩|⟨op,r,r',e1,e2,e3⟩|⟨r,r',e1,e2,e3⟩<;>cases e1<;>cases e2
  | un op1 r1 g1 x =>
   obtain ⟨hx,z1,z2,z3⟩:=okU h4;simp only [T.size] at hs
   cases t' with
   | leaf op2 w' =>
    exfalso;rcases A4s op1 r1 g1 x with ⟨q1,q2⟩|⟨q1,q2⟩<;>rcases A4r op2 w' with ⟨q3,q4⟩|⟨q3,q4⟩<;>rw [q2,q4] at he <;>
     rcases he with ⟨v,e1,e2,e3⟩|⟨op,r,r',e1,e2,e3⟩|⟨r,r',e1,e2,e3⟩<;>cases e1<;>cases e2
    ·subst q1;exact A8l h6 h4
    ·exact A8l h6 h4
   | un op2 r2 g2 y =>
    obtain ⟨hy,y1,y2,y3⟩:=okU h6;rcases A4s op1 r1 g1 x with ⟨q1,q2⟩|⟨q1,q2⟩<;>rcases A4s op2 r2 g2 y with ⟨q3,q4⟩|⟨q3,q4⟩<;>rw [q2,q4] at he <;>
     rcases he with ⟨v,e1,e2,e3⟩|⟨op,r,r',e1,e2,e3⟩|⟨r,r',e1,e2,e3⟩<;>cases e1<;>cases e2
    ·obtain ⟨e4,e5⟩:=ih x y (by omega) (Wp hx) (Wp hy) u u' hu hu' (A4p e3);exact ⟨by rw [q1,q3,(z3 q1).1,(z3 q1).2,(y3 q3).1,(y3 q3).2,e4],e5⟩
    ·exact (q3 rfl).elim
    ·exact (q1 rfl).elim
    ·have e4:=A4p e3;have e4:Lib.itoa r1++(32::(Lib.itoa g1++(32::(textT x++u))))=Lib.itoa r2++(32::(Lib.itoa g2++(32::(textT y++u')))):=by simpa using e4
     obtain ⟨f1,f2⟩:=A3c z1 y1 (V1 _) (V1 _) e4;obtain ⟨f3,f4⟩:=A3c z2 y2 (V1 _) (V1 _) (A4p f2);obtain ⟨f5,f6⟩:=ih x y (by omega) (Wp hx) (Wp hy) u u' hu hu' (A4p f4);exact ⟨by rw [f1,f3,f5],f6⟩
   | bin op2 a' b' =>
    exfalso;rcases A4s op1 r1 g1 x with ⟨q1,q2⟩|⟨q1,q2⟩<;>rw [q2,A7x] at he <;>
     rcases he with ⟨v,e1,e2,e3⟩|⟨op,r,r',e1,e2,e3⟩|⟨r,r',e1,e2,e3⟩<;>cases e1<;>cases e2
  | bin op1 a b =>
   have h3:op1<26:=h3;obtain ⟨⟨q1,oa⟩,⟨q2,ob⟩,os⟩:=okB h4 h3;simp only [T.size] at hs;rw [A7x] at he
   cases t' with
   | leaf op2 w' =>
    exfalso;rcases A4r op2 w' with ⟨q3,q4⟩|⟨q3,q4⟩<;>rw [q4] at he <;>
     rcases he with ⟨v,e1,e2,e3⟩|⟨op,r,r',e1,e2,e3⟩|⟨r,r',e1,e2,e3⟩<;>cases e1<;>cases e2
   | un op2 r2 g2 y =>
    exfalso;rcases A4s op2 r2 g2 y with ⟨q3,q4⟩|⟨q3,q4⟩<;>rw [q4] at he <;>
     rcases he with ⟨v,e1,e2,e3⟩|⟨op,r,r',e1,e2,e3⟩|⟨r,r',e1,e2,e3⟩<;>cases e1<;>cases e2
   | bin op2 a' b' =>
    have h5:op2<26:=h5;obtain ⟨⟨q3,oa'⟩,⟨q4,ob'⟩,os'⟩:=okB h6 h5;rw [A7x] at he;rcases he with ⟨v,e1,e2,e3⟩|⟨op,r,r',e1,e2,e3⟩|⟨r,r',e1,e2,e3⟩<;>cases e1<;>cases e2
    simp only [List.append_assoc,List.cons_append,List.nil_append] at e3;obtain ⟨f1,f2⟩:=hA a a' q1 q3 (by omega) oa oa' _ _ (Yd op1 os _) (Yd op2 os' _) e3;obtain ⟨f3,f4⟩:=A8x os os' (A4p f2);obtain ⟨f5,f6⟩:=hA b b' q2 q4 (by omega) ob ob' _ _ (paren _) (paren _) f4;exact ⟨by rw [f1,f3,f5],A4p f6⟩
theorem A2l {t t':T} {k k':Bool} (h:okT k t) (h':okT k' t') (e:textT t=textT t'):t=t' :=
 have sn:Y1 []:=⟨(λ_ _ h=>by simp at h),(λ_ _ h=>by simp at h)⟩
 ((A8n t.size).all t t' k k' (Nat.le_refl _) h h' [] [] sn sn (by rw [e])).1
def tab {α:Type} (n:Nat) (f:Int->α):List α:=(List.range n).map λi:Nat=>f (i:Int)
theorem A92 {α:Type} (n:Nat) (f:Int->α):(tab n f).length=n:=by simp [tab]
theorem A4i {α:Type} {n i:Nat} {f:Int->α} (h:i<n):(tab n f)[i]? = some (f i):=by simp [tab,h]
theorem Tm {α β:Type} {n:Nat} {f:Int->α} {g:α->Option β} {i:Int} (h:0<=i/\i<n):(getI (tab n f) i).bind g=g (f i):=by
 obtain ⟨j,rfl⟩:∃j:Nat,i=j:=⟨i.toNat,by omega⟩;exact Hp j _ rfl (A4i (by omega))
theorem A86 {α:Type} {L:Nat->Int->Int->List α->Option (List α)} {f:Int->Option α} {g:Int->α} {N:Nat}
  (hL:∀n x i l,L (n+1) x i l=bif decide (i<x) then ((f i).bind λy=>(getI l i).bind λ_=>(Ni l i y).bind λl'=>(ck (i+1)).bind λi'=>L n x i' l') else some l)
  (hf:∀i:Int,0<=i->i<N->f i=some (g i)) (hN:N<=1000000) :
  ∀(F j:Nat) (l:List α),l.length=N->N+1<=F+j->j<=N->(∀i:Nat,i<j->l[i]? = some (g i))->L F N j l=some (tab N g):=by
 intro F
 induction F with
 | zero=>intro j l _ h1 h2;omega
 | succ F ih =>
  intro j l hl h1 h2 h3;rw [hL]
  by_cases hj:j<N
  ·rw [Az (dT (by omega)),hf j (by omega) (by omega),sbd,Hp j _ rfl (List.getElem?_eq_getElem (by omega)),show Ni l (j:Int) (g j)=some (l.set j (g j)) by unfold Ni;rw [if_pos (by omega),Int.toNat_natCast],sbd,ckb (by omega)];refine ih (j+1) _ (by simp [hl]) (by omega) (by omega) λi hi=>?_
   by_cases e:i=j
   ·subst e;rw [List.getElem?_set_self (by omega)]
   ·rw [List.getElem?_set_ne (by omega)];exact h3 i (by omega)
  ·rw [An (dF (by omega))]
   congr 1
   apply List.ext_getElem?;intro i
   by_cases hi:i<N
   ·rw [h3 i (by omega),A4i hi]
   ·rw [List.getElem?_eq_none (by omega),List.getElem?_eq_none (by rw [A92];omega)]
theorem Rb {α:Type} {L:Nat->Int->Int->List α->Option (List α)} {f:Int->Option α} {g:Int->α} {N F B:Nat} {p:Int} {z:α}
  (hL:∀n x i l,L (n+1) x i l=bif decide (i<x) then ((f i).bind λy=>(getI l i).bind λ_=>(Ni l i y).bind λl'=>(ck (i+1)).bind λi'=>L n x i' l') else some l)
  (hf:∀i:Int,0<=i->i<N->f i=some (g i)) (hN:N<=1000000) (hF:N+1<=F) (hp:p=N) (hB:B<=1000) :
  ((mkI B p z).bind λl=>L F ((l.length:Nat):Int) 0 l)=some (tab N g):=by
 subst hp;have hm:B*N<=1000*1000000:=Nat.mul_le_mul hB hN;unfold mkI;rw [if_pos (by simp only [Int.toNat_natCast];omega),sbd,List.length_replicate];exact A86 hL hf hN F 0 _ (by simp) (by omega) (by omega) (λi hi=>by omega)
def irg (lo hi:Int):List Int:=(List.range (hi+1-lo).toNat).map λi:Nat=>lo+(i:Int)
theorem A4a {lo hi:Int} (h:hi<lo):irg lo hi=[]:=by
 unfold irg;rw [show (hi+1-lo).toNat=0 by omega];rfl
theorem A1v {lo hi:Int} (h:lo<=hi):irg lo hi=lo::irg (lo+1) hi:=by
 unfold irg;rw [show (hi+1-lo).toNat=(hi+1-(lo+1)).toNat+1 by omega,List.range_succ_eq_map,List.map_cons,List.map_map]
 congr 1
 ·simp
 ·apply List.map_congr_left;intro i _;show lo+((i+1:Nat):Int)=lo+1+(i:Int);omega
theorem Rg {lo hi x:Int}:x∈irg lo hi↔lo<=x/\x<=hi:=by
 unfold irg;rw [List.mem_map];constructor
 ·rintro ⟨i,h1,h2⟩;have:=List.mem_range.1 h1;omega
 ·rintro ⟨h1,h2⟩;exact ⟨(x-lo).toNat,List.mem_range.2 (by omega),by omega⟩
theorem Vl {q j R m:Int} (h1:0<=q) (h2:q<R) (h3:0<=j) (h4:j<m):0<=q*m+j/\q*m+j<R*m:=by
 have a:0<=q*m:=Int.mul_nonneg h1 (by omega);have b:(q+1)*m<=R*m:=Int.mul_le_mul_of_nonneg_right (by omega) (by omega);rw [Int.add_mul] at b;omega
def nb1 (R m k g b:Int):List Int:=((irg (if k%m-g>0 then k%m-g else 0) (if k%m+g<m-1 then k%m+g else m-1)).map λj=>(b+R)%R*m+j).filter λo=>o != k
def nbs (R m k r g:Int):List Int:=(if k/m+r-(k/m-r)>=R then irg 0 (R-1) else irg (k/m-r) (k/m+r)).flatMap (nb1 R m k g)
section
variable {σ:Type} {body:σ->Int->Option (σ×Bool)} {f:σ->Int->σ} {P:σ->Nat->Prop} {d:zF} {R m k r g:Int}
theorem ar4 (hR:((d.s.Rays.length:Nat):Int)=R) (hm:d.s.Site.Gates=m) (hR1:1<=R/\R<=1000) (hm1:1<=m/\m<=1000) (hk:0<=k/\k<=1000000) (hg:0<=g/\g<=3)
  (hb:∀s o c,P s c->0<=o->o<R*m->c<=1000000->body s o=some (f s o,true)/\P (f s o) (c+1)) (b:Int) (hb0:0<=b+R/\b<=1000) (k2:Int->σ->Option (σ×Bool)) :
  ∀(n:Nat) (j:Int) (s:σ) (c:Nat),P s c->0<=j->((if k%m+g<m-1 then k%m+g else m-1)+1-j).toNat+1<=n->c+((if k%m+g<m-1 then k%m+g else m-1)+1-j).toNat<=1000000 ->
  ∃c',P ((((irg j (if k%m+g<m-1 then k%m+g else m-1)).map λj=>(b+R)%R*m+j).filter λo=>o != k).foldl f s) c'/\c'<=c+((if k%m+g<m-1 then k%m+g else m-1)+1-j).toNat /\
   Dl body k g d (k%m) b k2 n j s=Ew b k2 ((((irg j (if k%m+g<m-1 then k%m+g else m-1)).map λj=>(b+R)%R*m+j).filter λo=>o != k).foldl f s):=by
 have hkm:0<=k%m/\k%m<m:=⟨Int.emod_nonneg _ (by omega),Int.emod_lt_of_pos _ (by omega)⟩;generalize hhi:(if k%m+g<m-1 then k%m+g else m-1)=hi;have hhi2:hi<=m-1:=by subst hhi;split<;>omega
 have hq:0<=(b+R)%R/\(b+R)%R<R:=⟨Int.emod_nonneg _ (by omega),Int.emod_lt_of_pos _ (by omega)⟩;have hMM:R*m<=1000000:=by
  have:=Int.mul_le_mul hR1.2 hm1.2 (by omega) (by omega);omega
 intro n
 induction n with
 | zero=>intro j s c _ _ h;omega
 | succ n ih =>
  intro j s c hP hj hn hc;show ∃c',_/\_/\Eu body k g d (k%m) b k2 (Dl body k g d (k%m) b k2 n) j s=_;unfold Eu;rw [hm,hR,ckb (by omega),ckb (by omega),hhi]
  by_cases hjh:j<=hi
  ·have hin:=Vl hq.1 hq.2 hj (show j<m by omega);have hqm:0<=(b+R)%R*m:=Int.mul_nonneg hq.1 (by omega);rw [Az (dT hjh),ckb (by omega)];rw [show Ug (b+R) R=some ((b+R)%R) by unfold Ug;rw [if_neg (by omega),Int.tmod_eq_emod_of_nonneg (by omega)],sbd,ckb (by omega),ckb (by omega),A1v hjh,List.map_cons]
   by_cases ho:(b+R)%R*m+j=k
   ·rw [An (neF ho),ckb (by omega),List.filter_cons_of_neg (p:=λo=>o != k) (a:=(b+R)%R*m+j) (by show ¬(((b+R)%R*m+j) != k)=true;rw [neF ho];simp)];obtain ⟨c',h1,h2,h3⟩:=ih (j+1) s c hP (by omega) (by omega) (by omega);exact ⟨c',h1,by omega,h3⟩
   ·obtain ⟨e1,e2⟩:=hb s _ c hP hin.1 hin.2 (by omega);rw [Az (neT ho),e1,sbd,Az rfl,ckb (by omega),List.filter_cons_of_pos (p:=λo=>o != k) (a:=(b+R)%R*m+j) (neT ho),List.foldl_cons];obtain ⟨c',h1,h2,h3⟩:=ih (j+1) _ (c+1) e2 (by omega) (by omega) (by omega);exact ⟨c',h1,by omega,h3⟩
  ·rw [An (dF hjh),A4a (by omega)];exact ⟨c,hP,by omega,rfl⟩
theorem ar2 (hR:((d.s.Rays.length:Nat):Int)=R) (hm:d.s.Site.Gates=m) (hR1:1<=R/\R<=1000) (hm1:1<=m/\m<=1000) (hk:0<=k/\k<=1000000) (hg:0<=g/\g<=3)
  (hb:∀s o c,P s c->0<=o->o<R*m->c<=1000000->body s o=some (f s o,true)/\P (f s o) (c+1)) (last:Int) (hl:last<=1000) (F:Nat) (hF:1002<=F) :
  ∀(n:Nat) (b:Int) (s:σ) (c:Nat),P s c->0<=b+R->(last+1-b).toNat+1<=n->c+(last+1-b).toNat*1000<=1000000 ->
   Cr F body k g d (k%m) last n b s=some (((irg b last).flatMap (nb1 R m k g)).foldl f s,true):=by
 have hkm:0<=k%m/\k%m<m:=⟨Int.emod_nonneg _ (by omega),Int.emod_lt_of_pos _ (by omega)⟩;intro n
 induction n with
 | zero=>intro b s c _ _ h;omega
 | succ n ih =>
  intro b s c hP hb0 hn hc;show Et F body k g d (k%m) last (Cr F body k g d (k%m) last n) b s=_;unfold Et
  by_cases hbl:b<=last
  ·rw [Az (dT hbl),ckb (by omega),A1v hbl,List.flatMap_cons,List.foldl_append];have hhi:(if k%m+g<m-1 then k%m+g else m-1)<=999:=by split<;>omega
   have hlo:0<=(if k%m-g>0 then k%m-g else 0):=by split<;>omega
   obtain ⟨c',h1,h2,h3⟩:=ar4 hR hm hR1 hm1 hk hg hb b (by omega) (Cr F body k g d (k%m) last n) F (if k%m-g>0 then k%m-g else 0) s c hP hlo (by omega) (by omega);rw [h3];unfold Ew;rw [ckb (by omega)];exact ih (b+1) _ c' h1 (by omega) (by omega) (by omega)
  ·rw [An (dF hbl),A4a (by omega)];rfl
theorem A06 (hR:((d.s.Rays.length:Nat):Int)=R) (hm:d.s.Site.Gates=m) (hR1:4<=R/\R<=500) (hm1:1<=m/\m<=1000) (hk:0<=k/\k<R*m) (hr:0<=r/\r<=3) (hg:0<=g/\g<=3)
  (hb:∀s o c,P s c->0<=o->o<R*m->c<=1000000->body s o=some (f s o,true)/\P (f s o) (c+1)) {F:Nat} (hF:1002<=F) {s:σ} (h0:P s 0) :
  F6 F (some d) k r g body s=some ((nbs R m k r g).foldl f s,true):=by
 have hMM:R*m<=500000:=by
  have:=Int.mul_le_mul hR1.2 hm1.2 (by omega) (by omega);omega
 have hd:0<=k/m/\k/m<R:=⟨Int.ediv_nonneg hk.1 (by omega),Int.ediv_lt_of_lt_mul (by omega) hk.2⟩;unfold F6;rw [sbd,hm,hR,show Zu k m=some (k/m) by unfold Zu;rw [if_neg (by omega),Int.tdiv_eq_ediv_of_nonneg hk.1];unfold ck;rw [if_pos (by omega)],sbd,
  show Ug k m=some (k%m) by unfold Ug;rw [if_neg (by omega),Int.tmod_eq_emod_of_nonneg hk.1],sbd,ckb (by omega),ckb (by omega),ckb (by omega)]
 unfold nbs Ev
 by_cases h:k/m+r-(k/m-r)>=R
 ·rw [Az (dT h),if_pos h,ckb (by omega)];exact ar2 hR hm ⟨by omega,by omega⟩ hm1 ⟨hk.1,by omega⟩ hg hb _ (by omega) F hF F 0 s 0 h0 (by omega) (by omega) (by omega)
 ·rw [An (dF h),if_neg h];exact ar2 hR hm ⟨by omega,by omega⟩ hm1 ⟨hk.1,by omega⟩ hg hb _ (by omega) F hF F _ s 0 h0 (by omega) (by omega) (by omega)
end
theorem A8e {R m k r g o:Int} (hR:1<=R) (hm:1<=m) (h:o∈nbs R m k r g):0<=o/\o<R*m:=by
 have key:∀b,o∈nb1 R m k g b->0<=o/\o<R*m:=by
  intro b hb;unfold nb1 at hb;obtain ⟨j,h1,rfl⟩:=List.mem_map.1 ((List.mem_filter.1 hb).1);have h2:=Rg.1 h1;refine Vl (Int.emod_nonneg _ (by omega)) (Int.emod_lt_of_pos _ (by omega)) ?_ ?_
  ·have:=h2.1;split at this<;>omega
  ·have:=h2.2;split at this<;>omega
 unfold nbs at h;obtain ⟨b,_,h2⟩:=List.mem_flatMap.1 h;exact key b h2
def rowS (s:zG) (k:Int):zJ:=((s.Rays[(k/s.Site.Gates).toNat]?.getD [])[(k%s.Site.Gates).toNat]?).getD default
def pt (n:Int):zD:=⟨⟨n,n⟩,true⟩
def noV:zD:=⟨⟨0,0⟩,false⟩
def Qn (s:zG) (op v k:Int):zD :=
 if op=14 then pt v else if op=21 then pt (rowS s k).Kind else if op=22 then pt (k/s.Site.Gates) else if op=23 then pt (k%s.Site.Gates) else if op=24 then pt s.Tilt else if op=15 then ⟨(rowS s k).Power,true⟩
 else if (rowS s k).Kind=1 then noV else if op=16 then ⟨(rowS s k).Ratio,true⟩ else if op=17 then ⟨(rowS s k).Match,true⟩ else if op=18 then pt (rowS s k).Spread else if (rowS s k).Kind=2 then noV else if op=19 then ⟨(rowS s k).Turn,true⟩ else ⟨⟨(rowS s k).Steps.1.Lo,(rowS s k).Steps.1.Hi⟩,true⟩
def tri (a b:Prop) [Decidable a] [Decidable b]:Int:=if a then 1 else if b then 2 else 3
def mx (a b:Int):Int:=if b>a then b else a
def mn (a b:Int):Int:=if b<a then b else a
def Vg (op:Int) (x y:zC):Int :=
 if op=8\/op=10 then tri (x.Hi<y.Lo) (x.Lo<y.Hi) else if op=9\/op=11 then tri (x.Hi<=y.Lo) (x.Lo<=y.Hi)
 else if op=12 then tri (mx x.Hi y.Hi=mn x.Lo y.Lo) (x.Lo<=y.Hi/\y.Lo<=x.Hi) else tri (x.Hi<y.Lo\/y.Hi<x.Lo) (mx x.Hi y.Hi≠mn x.Lo y.Lo)
def Xb (op:Int) (a b:zD):Int :=
 if a.has=false\/b.has=false then 3 else if op=10\/op=11 then Vg op b.span a.span else Vg op a.span b.span
def Yl (op:Int) (a b:zD):zD :=
 if a.has=false\/b.has=false then noV else if op=27 then ⟨⟨a.span.Lo-b.span.Hi,a.span.Hi-b.span.Lo⟩,true⟩ else ⟨⟨a.span.Lo+b.span.Lo,a.span.Hi+b.span.Hi⟩,true⟩
def Tq (op:Int) (l:List Int) (f:Int->Int):Int :=
 if op=6 then l.foldl (λa o=>mn a (f o)) 3 else l.foldl (λa o=>mx a (f o)) 1
def Rn (l:List Int) (f:Int->Int):zD:=⟨⟨l.countP λo=>f o==1,l.countP λo=>f o != 3⟩,true⟩
def T.sem (s:zG):T->Int->Int×zD
 | .leaf op v,k=>(if op=1 then 1 else 3,Qn s op v k)
 | .un op r g a,k=>(if op=3 then 4-(a.sem s k).1 else Tq op (nbs s.Rays.length s.Site.Gates k r g) λo=>(a.sem s o).1,Rn (nbs s.Rays.length s.Site.Gates k r g) λo=>(a.sem s o).1)
 | .bin op a b,k=>(if op=4 then mx (a.sem s k).1 (b.sem s k).1 else if op=5 then mn (a.sem s k).1 (b.sem s k).1 else Xb op (a.sem s k).2 (b.sem s k).2,Yl op (a.sem s k).2 (b.sem s k).2)
def bdS (x:zC):Prop:=-2147483648<=x.Lo/\x.Lo<=2147483648/\-2147483648<=x.Hi/\x.Hi<=2147483648
def bdE (e:zJ):Prop:=bdS e.Power/\bdS e.Ratio/\bdS e.Match/\bdS e.Turn/\bdS e.Steps.1/\bdS e.Steps.2/\0<=e.Kind/\e.Kind<=3/\0<=e.Spread/\e.Spread<=65535
structure Swp (s:zG) (R m:Nat):Prop where
 hR:s.Rays.length=R
 hm:s.Site.Gates=m
 R4:4<=R/\R<=500
 m1:1<=m/\m<=1000
 N1:R*m<=1000
 rows:∀l∈s.Rays,l.length=m
 bds:∀l∈s.Rays,∀e∈l,bdE e
 tilt:0<=s.Tilt/\s.Tilt<=256
theorem km {R m:Nat} {k:Int} (hm:1<=m) (h:0<=k/\k<(R*m:Nat)):0<=k/m/\k/m<R/\0<=k%m/\k%m<m:=by
 rw [Int.natCast_mul] at h;exact ⟨Int.ediv_nonneg h.1 (by omega),Int.ediv_lt_of_lt_mul (by omega) h.2,Int.emod_nonneg _ (by omega),Int.emod_lt_of_pos _ (by omega)⟩
theorem Yq {s:zG} {R m:Nat} (h:Swp s R m) {k:Int} (hk:0<=k/\k<(R*m:Nat)) :
  ∃row,s.Rays[(k/m).toNat]? = some row/\row[(k%m).toNat]? = some (rowS s k)/\bdE (rowS s k):=by
 obtain ⟨a,b,c,d⟩:=km h.m1.1 hk;have h1:(k/m).toNat<s.Rays.length:=by rw [h.hR];omega
 have h2:(k%m).toNat<(s.Rays[(k/m).toNat]).length:=by rw [h.rows _ (List.getElem_mem h1)];omega
 have e:rowS s k=(s.Rays[(k/m).toNat])[(k%m).toNat]:=by
  unfold rowS;rw [h.hm,List.getElem?_eq_getElem h1,Option.getD_some,List.getElem?_eq_getElem h2,Option.getD_some]
 refine ⟨_,List.getElem?_eq_getElem h1,?_,?_⟩
 ·rw [e];exact List.getElem?_eq_getElem h2
 ·rw [e];exact h.bds _ (List.getElem_mem h1) _ (List.getElem_mem h2)
theorem A9l {β:Type} {k m:Int} {f:Int->Option β} (hk:0<=k/\k<=1000000) (hm:1<=m):(Zu k m).bind f=f (k/m):=by
 have h0:0<=k/m:=Int.ediv_nonneg hk.1 (by omega);have h1:k/m<=k:=Int.ediv_le_self _ hk.1;unfold Zu;rw [if_neg (by omega),Int.tdiv_eq_ediv_of_nonneg hk.1,ckb (by omega)]
theorem A78 {β:Type} {k m:Int} {f:Int->Option β} (hk:0<=k) (hm:1<=m):(Ug k m).bind f=f (k%m):=by
 unfold Ug;rw [if_neg (by omega),Int.tmod_eq_emod_of_nonneg hk];rfl
theorem Swp.lt {s:zG} {R m:Nat} (h:Swp s R m) {k:Int} (hk:0<=k/\k<(R*m:Nat)):k<=1000000:=by have:=h.N1;omega
theorem A6l {s:zG} {R m:Nat} (h:Swp s R m) {k:Int} (hk:0<=k/\k<(R*m:Nat)) (F:Nat) {d:zF} (hd:d.s=s) (p:zA) :
  Fg F k (some d) p=some (Qn s p.Op p.Value_ k):=by
 obtain ⟨row,h1,h2,-⟩:=Yq h hk;obtain ⟨a,b,c,e⟩:=km h.m1.1 hk;have h3:=h.m1;have h4:=h.lt hk;unfold Fg;rw [sbd,hd,h.hm,A9l ⟨hk.1,h4⟩ (by omega),Hp (k/m).toNat row (by omega) h1,A78 hk.1 (by omega),Hp (k%m).toNat _ (by omega) h2,A9l ⟨hk.1,h4⟩ (by omega),A78 hk.1 (by omega)];unfold Qn Ab;rw [h.hm];simp only [Bool.cond_eq_ite,beq_iff_eq,apply_ite some];rfl
theorem A5u {a b:Bool} {p q:Prop} [Decidable p] [Decidable q] (h1:a=true↔p) (h2:b=true↔q):Br a b=some (tri p q):=by
 unfold Br tri
 by_cases hp:p
 ·rw [Az (h1.2 hp),if_pos hp]
 ·rw [An (by cases a<;>simp_all),if_neg hp]
  by_cases hq:q
  ·rw [Az (h2.2 hq),if_pos hq]
  ·rw [An (by cases b<;>simp_all),if_neg hq]
theorem B1v {p q:Prop} [Decidable p] [Decidable q]:(bif decide p then decide q else false)=true↔p/\q:=by by_cases h:p<;>simp [h]
theorem orB {p q:Prop} [Decidable p] [Decidable q]:(bif decide p then true else decide q)=true↔p\/q:=by by_cases h:p<;>simp [h]
theorem A3s {op:Int} {x y:zC} (h:op=8\/op=10):Vg op x y=tri (x.Hi<y.Lo) (x.Lo<y.Hi):=by unfold Vg;rw [if_pos h]
theorem A3t {op:Int} {x y:zC} (h:op=9\/op=11):Vg op x y=tri (x.Hi<=y.Lo) (x.Lo<=y.Hi):=by
 have h1:¬(op=8\/op=10):=by omega
 unfold Vg;rw [if_neg h1,if_pos h]
theorem A67 {x y:zC}:Vg 12 x y=tri (mx x.Hi y.Hi=mn x.Lo y.Lo) (x.Lo<=y.Hi/\y.Lo<=x.Hi):=rfl
theorem A68 {x y:zC}:Vg 13 x y=tri (x.Hi<y.Lo\/y.Hi<x.Lo) (mx x.Hi y.Hi≠mn x.Lo y.Lo):=rfl
theorem A3u {p:zA} {x y:zC} (hop:8<=p.Op/\p.Op<=13):De p x.Lo x.Hi y.Lo y.Hi=some (Vg p.Op x y):=by
 unfold De Eb Ec
 by_cases h8:p.Op=8
 ·rw [Az (eqT h8),Az (eqT h8),A3s (.inl h8)];exact A5u decide_eq_true_iff decide_eq_true_iff
 rw [An (eqF h8)]
 by_cases h10:p.Op=10
 ·rw [Az (eqT h10),A3s (.inr h10)];exact A5u decide_eq_true_iff decide_eq_true_iff
 rw [An (eqF h10)]
 by_cases h9:p.Op=9
 ·rw [Az (eqT h9),Az (eqT h9),A3t (.inl h9)];exact A5u decide_eq_true_iff decide_eq_true_iff
 rw [An (eqF h9)]
 by_cases h11:p.Op=11
 ·rw [Az (eqT h11),A3t (.inr h11)];exact A5u decide_eq_true_iff decide_eq_true_iff
 rw [An (eqF h11)]
 by_cases h12:p.Op=12
 ·rw [Az (eqT h12),h12,A67];exact A5u beq_iff_eq B1v
 have h13:p.Op=13:=by omega
 rw [An (eqF h12),Az (eqT h13),h13,A68];exact A5u orB bne_iff_ne
theorem A83 {R m:Nat} {f g:Int->zD} {k:Int} (hk:0<=k/\k<(R*m:Nat)) (F:Nat) (p:zA) (hop:8<=p.Op/\p.Op<=13) :
  Ea F k (tab (R*m) f) (tab (R*m) g) p=some (Xb p.Op (f k) (g k)):=by
 unfold Ea Xb;rw [Tm hk]
 cases hf:(f k).has
 ·rw [gdF (g:=(!false)==false&&true) rfl,sbd];simp
 ·rw [gdT (g:=(!true)==false&&true) rfl,Tm hk]
  cases hg:(g k).has
  ·simp
  ·rw [An (c:=bif !true then true else !true) rfl,Tm hk,Tm hk,if_neg (by simp)]
   by_cases h:p.Op=10\/p.Op=11
   ·rw [Az (by rcases h with h|h<;>rw [h]<;>rfl),if_pos h,A3u hop]
   ·rw [An (by rw [eqF (show p.Op≠10 by omega),eqF (show p.Op≠11 by omega)];rfl),if_neg h,A3u hop]
def bdV (n:Nat) (x:zD):Prop:=-((n:Int)*2147483648)<=x.span.Lo/\x.span.Lo<=(n:Int)*2147483648/\-((n:Int)*2147483648)<=x.span.Hi/\x.span.Hi<=(n:Int)*2147483648
theorem Zo {x:Int} (h:-9000000000000000000<=x/\x<=9000000000000000000):IntKind.i64.wrap (0-x)=-x:=by
 rw [Go.Eng.wrap64 (by omega)];omega
theorem A91 {R m:Nat} {f g:Int->zD} {k:Int} (hk:0<=k/\k<(R*m:Nat)) (F:Nat) (p:zA) {u v:Nat} (hf:bdV u (f k)) (hg:bdV v (g k)) (huv:u+v<=1000000) :
  Gy F k (tab (R*m) f) (tab (R*m) g) p=some (Yl p.Op (f k) (g k)):=by
 obtain ⟨f1,f2,f3,f4⟩:=hf;obtain ⟨g1,g2,g3,g4⟩:=hg;unfold Gy Yl Ge;rw [Tm hk]
 cases hf:(f k).has
 ·rw [gdF (g:=(!false)==false&&true) rfl,sbd];simp [noV]
 ·rw [gdT (g:=(!true)==false&&true) rfl,Tm hk]
  cases hg:(g k).has
  ·simp [noV]
  ·rw [An (c:=bif !true then true else !true) rfl,Tm hk,Tm hk,if_neg (by simp)]
   by_cases h:p.Op=27
   ·rw [Az (eqT h),if_pos h,Zo (by omega),Zo (by omega),ckb (by omega),ckb (by omega),Int.sub_eq_add_neg,Int.sub_eq_add_neg]
   ·rw [An (eqF h),if_neg h,ckb (by omega),ckb (by omega)]
theorem A5g {p:zA} {f:Int->Int} (l:List Int) (x:Int):l.foldl (λ(s:Int×Nat) o=>if p.Op=6 then (mn s.1 (f o),0) else (mx s.1 (f o),0)) (x,0)=(if p.Op=6 then l.foldl (λa o=>mn a (f o)) x else l.foldl (λa o=>mx a (f o)) x,0):=by
 induction l generalizing x with
 | nil=>simp
 | cons o l ih =>
  simp only [List.foldl_cons]
  by_cases h:p.Op=6
  ·simp only [if_pos h] at ih ⊢;exact ih _
  ·simp only [if_neg h] at ih ⊢;exact ih _
theorem A8g {s:zG} {R m:Nat} (h:Swp s R m) {k:Int} (hk:0<=k/\k<(R*m:Nat)) {F:Nat} (hF:1002<=F) {d:zF} (hd:d.s=s) (p:zA) (hop:p.Op=6\/p.Op=7) (hr:0<=p.Rays/\p.Rays<=3) (hg:0<=p.Gates/\p.Gates<=3) (f:Int->Int) :
  G3 F k p (some d) (tab (R*m) f)=some (Tq p.Op (nbs s.Rays.length s.Site.Gates k p.Rays p.Gates) f):=by
 have key:∀x,Ed F k p (some d) (tab (R*m) f) x=some (if p.Op=6 then (nbs R m k p.Rays p.Gates).foldl (λa o=>mn a (f o)) x else (nbs R m k p.Rays p.Gates).foldl (λa o=>mx a (f o)) x):=by
  intro x;unfold Ed;have:=h.R4;have:=h.m1;rw [A06 (R:=(R:Int)) (m:=(m:Int)) (P:=λ_ _=>True) (f:=λ(s:Int×Nat) o=>if p.Op=6 then (mn s.1 (f o),0) else (mx s.1 (f o),0)) (by rw [hd,h.hR]) (by rw [hd,h.hm]) (by omega) (by omega) ⟨hk.1,by rw [←Int.natCast_mul];exact hk.2⟩ hr hg ?_ hF trivial,sbd,A5g]
  ·rfl
  ·intro s o c _ h1 h2 _;rw [←Int.natCast_mul] at h2;refine ⟨?_,trivial⟩;unfold Hu;rcases hop with e|e
   ·rw [Az (eqT e),Tm ⟨h1,h2⟩];simp only [if_pos e];rfl
   ·have n6:p.Op≠6:=by omega
    rw [An (eqF n6),Tm ⟨h1,h2⟩];simp only [if_neg n6];rfl
 unfold G3 Tq;rw [h.hR,h.hm];rcases hop with e|e
 ·rw [An (eqF (by omega)),key];simp only [if_pos e]
 ·have n6:p.Op≠6:=by omega
  rw [Az (eqT e),key];simp only [if_neg n6]
theorem A69 {f:Int->Int} (l:List Int) (x y:Int):l.foldl (λ(s:Int×Int×Nat) o=>(if f o=1 then s.1+1 else s.1,if f o≠3 then s.2.1+1 else s.2.1,0)) (x,y,0)=(x+l.countP (λo=>f o==1),y+l.countP (λo=>f o != 3),0):=by
 induction l generalizing x y with
 | nil=>simp
 | cons o l ih =>
  simp only [List.foldl_cons,List.countP_cons];rw [ih]
  by_cases h1:f o=1<;>by_cases h2:f o=3<;>simp [h1,h2]<;>omega
theorem A6a {s:zG} {R m:Nat} (h:Swp s R m) {k:Int} (hk:0<=k/\k<(R*m:Nat)) {F:Nat} (hF:1002<=F) {d:zF} (hd:d.s=s) (p:zA) (hr:0<=p.Rays/\p.Rays<=3) (hg:0<=p.Gates/\p.Gates<=3) (f:Int->Int) :
  Fe F k (some d) p (tab (R*m) f)=some (Rn (nbs s.Rays.length s.Site.Gates k p.Rays p.Gates) f):=by
 unfold Fe;have:=h.R4;have:=h.m1;rw [A06 (R:=(R:Int)) (m:=(m:Int)) (P:=λ(s:Int×Int×Nat) c=>0<=s.1/\s.1<=c/\0<=s.2.1/\s.2.1<=c) (f:=λ(s:Int×Int×Nat) o=>(if f o=1 then s.1+1 else s.1,if f o≠3 then s.2.1+1 else s.2.1,0)) (by rw [hd,h.hR]) (by rw [hd,h.hm]) (by omega) (by omega) ⟨hk.1,by rw [←Int.natCast_mul];exact hk.2⟩ hr hg ?_ hF (by simp),sbd,A69]
 ·rw [Az rfl];unfold Rn;rw [h.hR,h.hm];simp
 ·intro s o c hP h1 h2 hc;obtain ⟨p1,p2,p3,p4⟩:=hP;rw [←Int.natCast_mul] at h2;refine ⟨?_,?_⟩
  ·have k2:∀x,E4 (tab (R*m) f) s o x=some ((x,if f o≠3 then s.2.1+1 else s.2.1,0),true):=by
    intro x;unfold E4;rw [Tm ⟨h1,h2⟩]
    by_cases e:f o=3
    ·rw [An (neF e),if_neg (by simp [e])]
    ·rw [Az (neT e),ckb (by omega),if_pos e]
   unfold Ho;rw [Tm ⟨h1,h2⟩]
   by_cases e:f o=1
   ·rw [Az (eqT e),ckb (by omega),k2,if_pos e]
   ·rw [An (eqF e),k2,if_neg e]
  ·dsimp only;refine ⟨?_,?_,?_,?_⟩<;>split<;>omega
theorem A44 {α:Type} {P:α->Prop} {f:α->Int->α} (hf:∀a o,P a->P (f a o)):∀(l:List Int) (x:α),P x->P (l.foldl f x):=by
 intro l
 induction l with
 | nil=>intro x h;exact h
 | cons o l ih=>intro x h;exact ih _ (hf _ _ h)
theorem A1f {a b:Prop} [Decidable a] [Decidable b]:1<=tri a b/\tri a b<=3:=by unfold tri;split<;>(try split)<;>omega
theorem A82 {op:Int} {x y:zC}:1<=Vg op x y/\Vg op x y<=3:=by
 unfold Vg
 split
 ·exact A1f
 ·split
  ·exact A1f
  ·split<;>exact A1f
theorem A4g (s:zG):∀(t:T),okT true t->∀k,1<=(t.sem s k).1/\(t.sem s k).1<=3:=by
 intro t
 induction t with
 | leaf op v=>intro h k;simp only [T.sem];split<;>omega
 | un op r g a ih =>
  intro h k;simp only [okT] at h;have ih:=ih h.2;simp only [T.sem]
  split
  ·have:=ih k;omega
  ·unfold Tq
   split
   ·exact A44 (P:=λx=>1<=x/\x<=3) (λa o ha=>by have:=ih o;unfold mn;split<;>omega) _ _ (by omega)
   ·exact A44 (P:=λx=>1<=x/\x<=3) (λa o ha=>by have:=ih o;unfold mx;split<;>omega) _ _ (by omega)
 | bin op a b iha ihb =>
  intro h k;simp only [okT] at h;simp only [T.sem];rcases h with h|h
  ·have:=iha h.2.1 k;have:=ihb h.2.2 k
   split
   ·unfold mx;split<;>omega
   ·rw [if_pos (by omega)];unfold mn;split<;>omega
  ·rw [if_neg (by omega),if_neg (by omega)];unfold Xb
   split
   ·omega
   ·split<;>exact A82
theorem Mk {f:Int->List Int} {c:Nat} (hf:∀x,(f x).length<=c):∀l:List Int,(l.flatMap f).length<=l.length*c:=by
 intro l
 induction l with
 | nil=>simp
 | cons x l ih =>
  rw [List.flatMap_cons,List.length_append,List.length_cons,Nat.add_mul];have:=hf x;omega
theorem A8f {R m k r g:Int} (hR:1<=R/\R<=500) (hm:1<=m/\m<=1000) (hr:0<=r/\r<=3):(nbs R m k r g).length<=1000000:=by
 have h1:∀b,(nb1 R m k g b).length<=1000:=by
  intro b;unfold nb1;refine Nat.le_trans (List.length_filter_le _ _) ?_;rw [List.length_map];unfold irg;rw [List.length_map,List.length_range]
  split<;>split<;>omega
 unfold nbs;refine Nat.le_trans (Mk h1 _) ?_;have:(if k/m+r-(k/m-r)>=R then irg 0 (R-1) else irg (k/m-r) (k/m+r)).length<=1000:=by
  unfold irg
  split<;>rw [List.length_map,List.length_range]<;>omega
 omega
theorem X9 {x:Int} (h:-2147483648<=x/\x<=2147483648):bdV 1 (pt x):=by unfold bdV pt;dsimp only;omega
theorem A2t {n:Nat}:bdV n noV:=by unfold bdV noV;dsimp only;omega
theorem Yt {x:zC} {b:Bool} (h:bdS x):bdV 1 ⟨x,b⟩:=by unfold bdV;unfold bdS at h;dsimp only;omega
theorem Mt {n:Nat} {c:Prop} [Decidable c] {x y:zD} (h1:c->bdV n x) (h2:¬c->bdV n y):bdV n (if c then x else y):=by
 by_cases h:c
 ·rw [if_pos h];exact h1 h
 ·rw [if_neg h];exact h2 h
theorem A1d {s:zG} {R m:Nat} (h:Swp s R m):∀(t:T),okT false t->∀k:Int,0<=k/\k<(R*m:Nat)->bdV t.size (t.sem s k).2:=by
 intro t
 induction t with
 | leaf op v =>
  intro ho k hk;obtain ⟨row,-,-,e⟩:=Yq h hk;obtain ⟨e1,e2,e3,e4,e5,e6,e7,e8,e9,e10⟩:=e;obtain ⟨a,b,c,d⟩:=km h.m1.1 hk;have:=h.R4;have:=h.m1;have:=h.tilt;simp only [okT] at ho;simp only [T.sem,T.size,Qn];rw [h.hm];exact Mt (λ_=>X9 (by omega)) λ_=>Mt (λ_=>X9 (by omega)) λ_=>Mt (λ_=>X9 (by omega)) λ_=>Mt (λ_=>X9 (by omega)) λ_=>Mt (λ_=>X9 (by omega)) λ_=>Mt (λ_=>Yt e1) λ_=>Mt (λ_=>A2t) λ_=>Mt (λ_=>Yt e2) λ_=>Mt (λ_=>Yt e3) λ_=>Mt (λ_=>X9 (by omega)) λ_=>Mt (λ_=>A2t) λ_=>Mt (λ_=>Yt e4) λ_=>Yt e5
 | un op r g a ih =>
  intro ho k hk;simp only [okT] at ho;simp only [T.sem,T.size,Rn];have:=h.R4;have:=h.m1;have h1:=A8f (R:=s.Rays.length) (m:=s.Site.Gates) (k:=k) (r:=r) (g:=g) (by rw [h.hR];omega) (by rw [h.hm];omega) (by omega);have h2:=List.countP_le_length (p:=λo=>(a.sem s o).1==1) (l:=nbs s.Rays.length s.Site.Gates k r g);have h3:=List.countP_le_length (p:=λo=>(a.sem s o).1 != 3) (l:=nbs s.Rays.length s.Site.Gates k r g);have:=a.size_pos;unfold bdV;dsimp only;omega
 | bin op a b iha ihb =>
  intro ho k hk;simp only [okT] at ho;have h1:=iha ho.2.1 k hk;have h2:=ihb ho.2.2.1 k hk;simp only [T.sem,T.size,Yl]
  split
  ·exact A2t
  ·unfold bdV at *
   split<;>dsimp only<;>omega
section
variable {κ ν:Type} [DecidableEq κ]
theorem A9g (B:List (κ×ν)) (x y:κ) (v:ν):lkM (upM B x v) y=if y=x then some v else lkM B y:=by
 induction B with
 | nil=>unfold upM lkM;split<;>rfl
 | cons p B ih =>
  unfold upM
  by_cases hx:x=p.1
  ·rw [if_pos hx];unfold lkM
   by_cases hy:y=x
   ·simp [hy]
   ·simp only [if_neg hy];rw [if_neg (by rw [←hx];exact hy)]
  ·rw [if_neg hx];unfold lkM
   by_cases hy:y=p.1
   ·rw [if_pos hy,if_pos hy,if_neg (λe=>hx (by rw [←e,hy]))]
   ·rw [if_neg hy,if_neg hy,ih]
end
structure Inv (s:zG) (N:Nat) (d:zF):Prop where
 hs:d.s=s
 hn:d.n=(N:Int)
 ht:∀t l,okT true t->lkM d.tests (tb (textT t))=some l->l=tab N λk=>(t.sem s k).1
 hv:∀t l,okT false t->lkM d.values (tb (textT t))=some l->l=tab N λk=>(t.sem s k).2
section
variable {s:zG} {R m N:Nat} {d d':zF}
theorem Inv.eta (h:Inv s N d) (h':Inv s N d'):zF.mk d.s d.n d'.tests d'.values=d':=by
 cases d;cases d'
 have e1:=h.hs;have e2:=h.hn;have e3:=h'.hs;have e4:=h'.hn;simp only at e1 e2 e3 e4 ⊢;rw [e1,e2,e3,e4]
theorem Inv.upT (h:Inv s N d) {t:T} (ht:okT true t):Inv s N ⟨d.s,d.n,upM d.tests (tb (textT t)) (tab N λk=>(t.sem s k).1),d.values⟩:=by
 refine ⟨h.hs,h.hn,λt' l h1 h2=>?_,h.hv⟩;rw [A9g] at h2
 by_cases e:tb (textT t')=tb (textT t)
 ·rw [if_pos e] at h2
  cases A2l h1 ht (A7m e)
  cases h2;rfl
 ·rw [if_neg e] at h2;exact h.ht t' l h1 h2
theorem Inv.upV (h:Inv s N d) {t:T} (ht:okT false t):Inv s N ⟨d.s,d.n,d.tests,upM d.values (tb (textT t)) (tab N λk=>(t.sem s k).2)⟩:=by
 refine ⟨h.hs,h.hn,h.ht,λt' l h1 h2=>?_⟩;rw [A9g] at h2
 by_cases e:tb (textT t')=tb (textT t)
 ·rw [if_pos e] at h2
  cases A2l h1 ht (A7m e)
  cases h2;rfl
 ·rw [if_neg e] at h2;exact h.hv t' l h1 h2
theorem A7p {p:zA} {F:Nat} (hd:Inv s N d) (hN:N<=1000) (hF:2000<=F) (hop:p.Op=1\/p.Op=2):Fh F (some d) p=some (tab N λ_=>if p.Op=1 then 1 else 3):=by
 unfold Fh Je;rw [sbd,Rb (L:=F1 F p) (f:=λi=>Fi F i p) (λ_ _ _ _=>rfl) ?_ (by omega) (by omega) hd.hn (by omega)]
 ·rfl
 ·intro i _ _;show Fi F i p=_;unfold Fi;rcases hop with e|e
  ·rw [Hp 1 1 (by rw [e];rfl) rfl,if_pos e]
  ·rw [Hp 2 3 (by rw [e];rfl) rfl,if_neg (by omega)]
theorem B09 {S:Ap} {V:Am} {p u:zA} {F:Nat} {f:Int->Int} (hd:Inv s N d) (hN:N<=1000) (hF:2000<=F) (ha:p.Args=[u]) (hS:S d u=some (tab N f,d')) (hd':Inv s N d') (hf:∀k,1<=f k/\f k<=3) :
  Jl F S V d p=some (tab N λk=>4-f k,d'):=by
 unfold Jl Jf;rw [ha,R8,hS,sbd];dsimp only;rw [Rb (L:=F2 F (tab N f)) (f:=λi=>Gx F i (tab N f)) (g:=λk=>4-f k) (λ_ _ _ _=>rfl) ?_ (by omega) (by omega) hd.hn (by omega),sbd,hd.eta hd'];intro i h1 h2;show Gx F i _=_;unfold Gx;have:=hf i;rw [Tm ⟨h1,h2⟩,ckb (by omega)]
theorem A7z {S:Ap} {V:Am} {p u v:zA} {F:Nat} {f g:Int->Int} {d1:zF} (hd:Inv s N d) (hN:N<=1000) (hF:2000<=F) (ha:p.Args=[u,v]) (hS:S d u=some (tab N f,d1)) (hd1:Inv s N d1) (hS2:S d1 v=some (tab N g,d')) (hd':Inv s N d') :
  G7 F S V d p=some (tab N λk=>if p.Op=4 then mx (f k) (g k) else mn (f k) (g k),d'):=by
 unfold G7 Jg;rw [ha,R8,Xh,hS,sbd];dsimp only;rw [hd.eta hd1,hS2,sbd];dsimp only;rw [Rb (L:=F3 F p (tab N f) (tab N g)) (f:=λi=>G2 F i p (tab N f) (tab N g)) (g:=λk=>if p.Op=4 then mx (f k) (g k) else mn (f k) (g k)) (λ_ _ _ _=>rfl) ?_ (by omega) (by omega) hd.hn (by omega),sbd,hd.eta hd'];intro i h1 h2;show G2 F i p _ _=_;unfold G2
 by_cases e:p.Op=4
 ·rw [Az (eqT e),Tm ⟨h1,h2⟩,Tm ⟨h1,h2⟩];simp only [if_pos e];rfl
 ·rw [An (eqF e),Tm ⟨h1,h2⟩,Tm ⟨h1,h2⟩];simp only [if_neg e];rfl
theorem A6v {S:Ap} {V:Am} {p u:zA} {F:Nat} {f:Int->Int} (h:Swp s R m) (hd:Inv s (R*m) d) (hF:2000<=F) (ha:p.Args=[u]) (hop:p.Op=6\/p.Op=7) (hr:0<=p.Rays/\p.Rays<=3) (hg:0<=p.Gates/\p.Gates<=3) (hS:S d u=some (tab (R*m) f,d')) (hd':Inv s (R*m) d') :
  G8 F S V d p=some (tab (R*m) λk=>Tq p.Op (nbs s.Rays.length s.Site.Gates k p.Rays p.Gates) f,d'):=by
 have hN:=h.N1;unfold G8 Jh;rw [ha,R8,hS,sbd];dsimp only;rw [hd.eta hd',Rb (L:=F4 F p (some d') (tab (R*m) f)) (f:=λi=>G3 F i p (some d') (tab (R*m) f)) (g:=λk=>Tq p.Op (nbs s.Rays.length s.Site.Gates k p.Rays p.Gates) f) (λ_ _ _ _=>rfl) (λi h1 h2=>A8g h ⟨h1,h2⟩ (by omega) hd'.hs p hop hr hg f) (by omega) (by omega) hd.hn (by omega),sbd]
theorem A81 {S:Ap} {V:Am} {p u v:zA} {F:Nat} {f g:Int->zD} {d1:zF} (h:Swp s R m) (hd:Inv s (R*m) d) (hF:2000<=F) (ha:p.Args=[u,v]) (hop:8<=p.Op/\p.Op<=13) (hS:V d u=some (tab (R*m) f,d1)) (hd1:Inv s (R*m) d1) (hS2:V d1 v=some (tab (R*m) g,d')) (hd':Inv s (R*m) d') :
  C4 F S V d p=some (tab (R*m) λk=>Xb p.Op (f k) (g k),d'):=by
 have hN:=h.N1;unfold C4 Ji;rw [ha,R8,Xh,hS,sbd];dsimp only;rw [hd.eta hd1,hS2,sbd];dsimp only;rw [Rb (L:=F5 F (tab (R*m) f) (tab (R*m) g) p) (f:=λi=>Ea F i (tab (R*m) f) (tab (R*m) g) p) (g:=λk=>Xb p.Op (f k) (g k)) (λ_ _ _ _=>rfl) (λi h1 h2=>A83 ⟨h1,h2⟩ F p hop) (by omega) (by omega) hd.hn (by omega),sbd,hd.eta hd']
theorem A4y {p:zA} {F:Nat} (h:Swp s R m) (hd:Inv s (R*m) d) (hF:2000<=F):Ff F (some d) p=some (tab (R*m) λk=>Qn s p.Op p.Value_ k):=by
 have hN:=h.N1;unfold Ff Fq;rw [sbd,Rb (L:=Db F (some (zF.mk d.s d.n [] [])) p) (f:=λi=>Fg F i (some (zF.mk d.s d.n [] [])) p) (g:=λk=>Qn s p.Op p.Value_ k) (λ_ _ _ _=>rfl) (λi h1 h2=>A6l h ⟨h1,h2⟩ F hd.hs p) (by omega) (by omega) hd.hn (by omega),sbd]
theorem A4v {S:Ap} {V:Am} {p u:zA} {F:Nat} {f:Int->Int} (h:Swp s R m) (hd:Inv s (R*m) d) (hF:2000<=F) (ha:p.Args=[u]) (hr:0<=p.Rays/\p.Rays<=3) (hg:0<=p.Gates/\p.Gates<=3) (hS:S d u=some (tab (R*m) f,d')) (hd':Inv s (R*m) d') :
  Gw F S V d p=some (tab (R*m) λk=>Rn (nbs s.Rays.length s.Site.Gates k p.Rays p.Gates) f,d'):=by
 have hN:=h.N1;unfold Gw Fs;rw [ha,R8,hS,sbd];dsimp only;rw [hd.eta hd',Rb (L:=Dc F (some d') p (tab (R*m) f)) (f:=λi=>Fe F i (some d') p (tab (R*m) f)) (g:=λk=>Rn (nbs s.Rays.length s.Site.Gates k p.Rays p.Gates) f) (λ_ _ _ _=>rfl) (λi h1 h2=>A6a h ⟨h1,h2⟩ (by omega) hd'.hs p hr hg f) (by omega) (by omega) hd.hn (by omega),sbd]
theorem A90 {S:Ap} {V:Am} {p u v:zA} {F:Nat} {f g:Int->zD} {d1:zF} {a b:Nat} (h:Swp s R m) (hd:Inv s (R*m) d) (hF:2000<=F) (ha:p.Args=[u,v]) (hS:V d u=some (tab (R*m) f,d1)) (hd1:Inv s (R*m) d1) (hS2:V d1 v=some (tab (R*m) g,d')) (hd':Inv s (R*m) d')
  (hf:∀k:Int,0<=k/\k<(R*m:Nat)->bdV a (f k)) (hg:∀k:Int,0<=k/\k<(R*m:Nat)->bdV b (g k)) (hab:a+b<=1000000):Hh F S V d p=some (tab (R*m) λk=>Yl p.Op (f k) (g k),d'):=by
 have hN:=h.N1;unfold Hh Ft;rw [ha,R8,Xh,hS,sbd];dsimp only;rw [hd.eta hd1,hS2,sbd];dsimp only;rw [Rb (L:=Dd F (tab (R*m) f) (tab (R*m) g) p) (f:=λi=>Gy F i (tab (R*m) f) (tab (R*m) g) p) (g:=λk=>Yl p.Op (f k) (g k)) (λ_ _ _ _=>rfl) (λi h1 h2=>A91 ⟨h1,h2⟩ F p (hf i ⟨h1,h2⟩) (hg i ⟨h1,h2⟩) hab) (by omega) (by omega) hd.hn (by omega),sbd,hd.eta hd']
end
section
variable {F:Nat} {S:Ap} {V:Am} {d:zF} {p:zA} {key:ByteArray}
theorem Zm (h1:Dg F p=some key) {l:List Int} (h2:lkM d.tests key=some l):Be F S V d p=some (l,d):=by
 unfold Be;rw [h1,sbd,Az (by rw [h2];rfl),h2];rfl
theorem Xz (h1:Dg F p=some key) {l:List zD} (h2:lkM d.values key=some l):Bw F S V d p=some (l,d):=by
 unfold Bw;rw [h1,sbd,Az (by rw [h2];rfl),h2];rfl
theorem A3l (h1:Dg F p=some key) (h2:lkM d.tests key=none) (hop:p.Op=1\/p.Op=2) {l:List Int} (h:Fh F (some d) p=some l) :
  Be F S V d p=some (l,⟨d.s,d.n,upM d.tests key l,d.values⟩):=by
 unfold Be;rw [h1,sbd,An (by rw [h2];rfl),h,sbd];rcases hop with e|e<;>simp only [e]<;>rfl
theorem A7o (h1:Dg F p=some key) (h2:lkM d.tests key=none) (hop:p.Op=3) {l:List Int} {d':zF} (h:Jl F S V d p=some (l,d')) :
  Be F S V d p=some (l,⟨d.s,d.n,upM d'.tests key l,d'.values⟩):=by
 unfold Be;rw [h1,sbd,An (by rw [h2];rfl),h,sbd];simp only [hop];rfl
theorem A5s (h1:Dg F p=some key) (h2:lkM d.tests key=none) (hop:p.Op=4\/p.Op=5) {l:List Int} {d':zF} (h:G7 F S V d p=some (l,d')) :
  Be F S V d p=some (l,⟨d.s,d.n,upM d'.tests key l,d'.values⟩):=by
 unfold Be;rw [h1,sbd,An (by rw [h2];rfl),h,sbd];rcases hop with e|e<;>simp only [e]<;>rfl
theorem A5t (h1:Dg F p=some key) (h2:lkM d.tests key=none) (hop:p.Op=6\/p.Op=7) {l:List Int} {d':zF} (h:G8 F S V d p=some (l,d')) :
  Be F S V d p=some (l,⟨d.s,d.n,upM d'.tests key l,d'.values⟩):=by
 unfold Be;rw [h1,sbd,An (by rw [h2];rfl),h,sbd];rcases hop with e|e<;>simp only [e]<;>rfl
theorem A7n (h1:Dg F p=some key) (h2:lkM d.tests key=none) (hop:8<=p.Op/\p.Op<=13) {l:List Int} {d':zF} (h:C4 F S V d p=some (l,d')) :
  Be F S V d p=some (l,⟨d.s,d.n,upM d'.tests key l,d'.values⟩):=by
 have hop:p.Op=8\/p.Op=9\/p.Op=10\/p.Op=11\/p.Op=12\/p.Op=13:=by omega
 unfold Be;rw [h1,sbd,An (by rw [h2];rfl),h,sbd];rcases hop with e|e|e|e|e|e<;>simp only [e]<;>rfl
theorem A2n (h1:Dg F p=some key) (h2:lkM d.values key=none) (hop:p.Op=25) {l:List zD} {d':zF} (h:Gw F S V d p=some (l,d')) :
  Bw F S V d p=some (l,⟨d.s,d.n,d'.tests,upM d'.values key l⟩):=by
 unfold Bw;rw [h1,sbd,An (by rw [h2];rfl),h,sbd,Az (eqT hop)]
theorem A5v (h1:Dg F p=some key) (h2:lkM d.values key=none) (hop:p.Op=26\/p.Op=27) {l:List zD} {d':zF} (h:Hh F S V d p=some (l,d')) :
  Bw F S V d p=some (l,⟨d.s,d.n,d'.tests,upM d'.values key l⟩):=by
 unfold Bw;rw [h1,sbd,An (by rw [h2];rfl),h,sbd];rcases hop with e|e
 ·rw [An (eqF (by omega)),Az (eqT e),Az (eqT e)]
 ·rw [An (eqF (by omega)),An (eqF (by omega)),Az (eqT e)]
theorem A2o (h1:Dg F p=some key) (h2:lkM d.values key=none) (hop:p.Op<25) {l:List zD} (h:Ff F (some d) p=some l) :
  Bw F S V d p=some (l,⟨d.s,d.n,d.tests,upM d.values key l⟩):=by
 unfold Bw;rw [h1,sbd,An (by rw [h2];rfl),h,sbd,An (eqF (by omega)),An (eqF (by omega)),An (eqF (by omega))]
end
theorem A3k (F:Nat):F8 (F+1)=Be F (F8 F) (Fj F):=rfl
theorem A1g (F:Nat):Fj (F+1)=Bw F (F8 F) (Fj F):=rfl
theorem A4f {s:zG} {R m:Nat} (h:Swp s R m):∀(t:T) (F:Nat) (d:zF),t.size+2500<=F->t.size<=1000->Inv s (R*m) d ->
  (okT true t->∃d',F8 F d t.node=some (tab (R*m) λk=>(t.sem s k).1,d')/\Inv s (R*m) d') /\
  (okT false t->∃d',Fj F d t.node=some (tab (R*m) λk=>(t.sem s k).2,d')/\Inv s (R*m) d'):=by
 have hN:=h.N1;intro t
 induction t with
 | leaf op v =>
  intro F d hF hs hd;obtain ⟨F,rfl⟩:∃G,F=G+1:=⟨F-1,by omega⟩;simp only [T.size] at hF hs;rw [A3k,A1g];constructor
  ·intro ht;have hx:=V3 _ true F ht (by simp only [T.size];omega) (by simp only [T.size];omega)
   cases hl:lkM d.tests (tb (textT (.leaf op v))) with
   | some l=>exact ⟨d,by rw [Zm hx hl,hd.ht _ l ht hl],hd⟩
   | none =>
    have hop:op=1\/op=2:=by simp only [okT] at ht;omega
    exact ⟨_,A3l hx hl hop (A7p hd hN (by omega) hop),hd.upT ht⟩
  ·intro ht;have hx:=V3 _ false F ht (by simp only [T.size];omega) (by simp only [T.size];omega)
   cases hl:lkM d.values (tb (textT (.leaf op v))) with
   | some l=>exact ⟨d,by rw [Xz hx hl,hd.hv _ l ht hl],hd⟩
   | none =>
    have hop:op<25:=by simp only [okT] at ht;omega
    exact ⟨_,A2o hx hl hop (A4y h hd (by omega)),hd.upV ht⟩
 | un op r g a ih =>
  intro F d hF hs hd;obtain ⟨F,rfl⟩:∃G,F=G+1:=⟨F-1,by omega⟩;simp only [T.size] at hF hs;rw [A3k,A1g];constructor
  ·intro ht;have hx:=V3 _ true F ht (by simp only [T.size];omega) (by simp only [T.size];omega)
   cases hl:lkM d.tests (tb (textT (.un op r g a))) with
   | some l=>exact ⟨d,by rw [Zm hx hl,hd.ht _ l ht hl],hd⟩
   | none =>
    have ho:=ht;simp only [okT] at ho;obtain ⟨d',h1,h2⟩:=(ih F d (by omega) (by omega) hd).1 ho.2;rcases ho.1 with o|o
    ·refine ⟨_,(A7o hx hl o.1 (B09 hd hN (by omega) rfl h1 h2 (A4g s a ho.2))).trans ?_,h2.upT ht⟩;simp only [T.sem,if_pos o.1,hd.hs,hd.hn,h2.hs,h2.hn]
    ·refine ⟨_,(A5t hx hl o.1 (A6v h hd (by omega) rfl o.1 ⟨o.2.1,o.2.2.1⟩ o.2.2.2 h1 h2)).trans ?_,h2.upT ht⟩;simp only [T.sem,if_neg (show op≠3 by omega),hd.hs,hd.hn,h2.hs,h2.hn];rfl
  ·intro ht;have hx:=V3 _ false F ht (by simp only [T.size];omega) (by simp only [T.size];omega)
   cases hl:lkM d.values (tb (textT (.un op r g a))) with
   | some l=>exact ⟨d,by rw [Xz hx hl,hd.hv _ l ht hl],hd⟩
   | none =>
    have ho:=ht;simp only [okT] at ho;obtain ⟨d',h1,h2⟩:=(ih F d (by omega) (by omega) hd).1 ho.2;refine ⟨_,(A2n hx hl ho.1.1 (A4v h hd (by omega) rfl ⟨ho.1.2.1,ho.1.2.2.1⟩ ⟨ho.1.2.2.2.1,ho.1.2.2.2.2⟩ h1 h2)).trans ?_,h2.upV ht⟩;simp only [T.sem,hd.hs,hd.hn,h2.hs,h2.hn];rfl
 | bin op a b iha ihb =>
  intro F d hF hs hd;obtain ⟨F,rfl⟩:∃G,F=G+1:=⟨F-1,by omega⟩;simp only [T.size] at hF hs;rw [A3k,A1g];constructor
  ·intro ht;have hx:=V3 _ true F ht (by simp only [T.size];omega) (by simp only [T.size];omega)
   cases hl:lkM d.tests (tb (textT (.bin op a b))) with
   | some l=>exact ⟨d,by rw [Zm hx hl,hd.ht _ l ht hl],hd⟩
   | none =>
    have ho:=ht;simp only [okT] at ho;rcases ho with o|o
    ·obtain ⟨d1,h1,h2⟩:=(iha F d (by omega) (by omega) hd).1 o.2.1;obtain ⟨d2,h3,h4⟩:=(ihb F d1 (by omega) (by omega) h2).1 o.2.2;refine ⟨_,(A5s hx hl o.1 (A7z hd hN (by omega) rfl h1 h2 h3 h4)).trans ?_,h4.upT ht⟩;have e:(λk=>if (T.bin op a b).node.Op=4 then mx (a.sem s k).1 (b.sem s k).1 else mn (a.sem s k).1 (b.sem s k).1)=λk=>((T.bin op a b).sem s k).1:=by
      funext k
      simp only [T.sem,T.node]
      by_cases h4:op=4
      ·simp only [if_pos h4];exact if_pos h4
      ·simp only [if_neg h4,if_pos (show op=5 by omega)];exact if_neg h4
     rw [e,hd.hs,hd.hn,h4.hs,h4.hn]
    ·obtain ⟨d1,h1,h2⟩:=(iha F d (by omega) (by omega) hd).2 o.2.2.1;obtain ⟨d2,h3,h4⟩:=(ihb F d1 (by omega) (by omega) h2).2 o.2.2.2;refine ⟨_,(A7n hx hl ⟨o.1,o.2.1⟩ (A81 h hd (by omega) rfl ⟨o.1,o.2.1⟩ h1 h2 h3 h4)).trans ?_,h4.upT ht⟩;simp only [T.sem,if_neg (show op≠4 by omega),if_neg (show op≠5 by omega),hd.hs,hd.hn,h4.hs,h4.hn];rfl
  ·intro ht;have hx:=V3 _ false F ht (by simp only [T.size];omega) (by simp only [T.size];omega)
   cases hl:lkM d.values (tb (textT (.bin op a b))) with
   | some l=>exact ⟨d,by rw [Xz hx hl,hd.hv _ l ht hl],hd⟩
   | none =>
    have ho:=ht;simp only [okT] at ho;obtain ⟨d1,h1,h2⟩:=(iha F d (by omega) (by omega) hd).2 ho.2.1;obtain ⟨d2,h3,h4⟩:=(ihb F d1 (by omega) (by omega) h2).2 ho.2.2.1;refine ⟨_,(A5v hx hl ho.1 (A90 h hd (by omega) rfl h1 h2 h3 h4 (A1d h a ho.2.1) (A1d h b ho.2.2.1) (by omega))).trans ?_,h4.upV ht⟩;simp only [T.sem,hd.hs,hd.hn,h4.hs,h4.hn];rfl
structure GoodR (L:List (ByteArray×T)):Prop where
 len:L.length<=32
 size:(L.map (·.2.size)).sum<=300
 names:∀p∈L,∀F,30<=F->beam_Name F p.1=some true/\sift_word F p.1=some false
 distinct:∀(i j:Nat) (p q:ByteArray×T),L[i]? = some p->L[j]? = some q->i<j->p.1≠q.1
 trees:∀p∈L,okT true p.2/\p.2.depth<=12
section
variable {s:zG} {R m:Nat} {fs:List (Int->Int)}
end
def T.noRay:T->Prop
 | .leaf op _=>op≠22
 | .un _ _ _ a=>a.noRay
 | .bin _ a b=>a.noRay/\b.noRay
structure Mean (k ray:Bool) (d:Nat) (t:T):Prop where
 ok:okT k t
 size:t.size+1<=2 ^ d
 depth:t.depth<=d
 one:d=1->t.op<26
 ray:ray=false->t.noRay
def nms:List ByteArray:=[(⟨#[97]⟩:ByteArray),(⟨#[98,49]⟩:ByteArray),(⟨#[99,95]⟩:ByteArray),(⟨#[100,100,100,100,100,100,100,100,100,100,100,100]⟩:ByteArray)]
structure MeanR (ray:Bool) (L:List (ByteArray×T)):Prop where
 len:L.length<=4
 names:∀(i:Nat) p,L[i]? = some p->nms[i]? = some p.1
 trees:∀p∈L,Mean true ray 5 p.2
theorem A14 {x y:Bool} (h1:x=false) (h2:y=false):(bif x then true else y)=false:=by rw [h1,h2];rfl
section
variable {f:zA->Option zA} {p u v u' v':zA} {n:Nat}
end
section
variable {f:zA->Option Bool} {p u v:zA} {n:Nat}
end
section
variable {f:zA->zA->Option Bool} {p u v:zA} {n:Nat}
end
def Y9 (s:ByteArray):Bool:=(!(sEq s ⟨#[]⟩))&&(decide ((s.size:Int)<=12)&&(decide ((R9 s 0).getD 0>=97)&&(decide ((R9 s 0).getD 0<=122)&&!A6x s)))
theorem Yp (F:Nat) (s:ByteArray):beam_Name F s=some (Y9 s):=by
 have hg:sEq s ⟨#[]⟩=false->R9 s 0=some ((R9 s 0).getD 0):=by
  intro h;have hs:s.size≠0:=by
   intro h0;have:s=⟨#[]⟩:=by
    cases s with
    | mk d =>
     have:d=#[]:=Array.eq_empty_of_size_eq_zero h0;rw [this]
   rw [A8u.2 this] at h
   cases h
  unfold R9;rw [if_pos (by omega)];rfl
 unfold beam_Name Y9 J5
 cases h1:sEq s ⟨#[]⟩ with
 | true=>simp [gd]
 | false =>
  have e:=hg h1;generalize hu:(R9 s 0).getD 0=u at e ⊢;rw [e]
  by_cases h2:(s.size:Int)<=12
  ·by_cases h3:u>=97
   ·simp [gd,h2,h3]
   ·simp [gd,h2,h3]
  ·simp [gd,h2]
theorem A85 (n b0 b1 b2 b3:Nat) (h:128<=b0):128<=(Lib.decodeN n b0 b1 b2 b3).1:=by
 unfold Lib.decodeN
 repeat' split
 all_goals first|(simp only;omega)|omega
theorem A9y {s:ByteArray} {i:Nat} (h:(s.get! i).toNat<128):Utf8.decode s i=((s.get! i).toNat,1):=by
 rw [Lib.decode_at];unfold Lib.decodeN;rw [if_pos h]
theorem A9x {s:ByteArray} {i:Nat} (h:128<=(s.get! i).toNat):128<=(Utf8.decode s i).1:=by
 rw [Lib.decode_at];exact A85 _ _ _ _ _ h
theorem A6w {x:Nat} (h:128<=x):nmC x=true:=by
 unfold nmC;have h1:decide (x<=122)=false:=by simp;omega
 have h2:decide (x<=57)=false:=by simp;omega
 have h3:(x==95)=false:=by simp;omega
 rw [h1,h2,h3];simp
theorem Yn (s:ByteArray):∀(f pos:Nat),s.size<=pos+f->(0<=Lib.idxFuncFrom nmC true s f pos↔∃j,pos<=j/\j<s.size/\nmC (s.get! j).toNat=true):=by
 intro f
 induction f with
 | zero =>
  intro pos h;rw [Lib.idxFuncFrom_end nmC true s 0 pos (by omega)];constructor
  ·intro h;omega
  ·rintro ⟨j,h1,h2,_⟩;omega
 | succ f ih =>
  intro pos h;rw [Lib.idxFuncFrom]
  by_cases hp:pos<s.size
  ·rw [if_pos hp]
   by_cases hb:(s.get! pos).toNat<128
   ·rw [A9y hb];simp only
    by_cases hn:nmC (s.get! pos).toNat=true
    ·rw [if_pos hn];exact ⟨λ_=>⟨pos,Nat.le_refl _,hp,hn⟩,λ_=>by omega⟩
    ·rw [if_neg hn,ih (pos+1) (by omega)];constructor
     ·rintro ⟨j,h1,h2,h3⟩;exact ⟨j,by omega,h2,h3⟩
     ·rintro ⟨j,h1,h2,h3⟩;refine ⟨j,?_,h2,h3⟩;rcases Nat.lt_or_ge pos j with h4|h4
      ·omega
      ·obtain rfl:j=pos:=by omega
       exact absurd h3 hn
   ·rw [if_pos (A6w (A9x (by omega)))];exact ⟨λ_=>⟨pos,Nat.le_refl _,hp,A6w (by omega)⟩,λ_=>by omega⟩
  ·rw [if_neg hp];constructor
   ·intro h;omega
   ·rintro ⟨j,h1,h2,_⟩;omega
theorem A89 {s:ByteArray} {i:Nat} (h:i<s.size):s[i]=s.get! i:=by
 cases s with
 | mk d =>
  show d[i]=d[i]!;rw [getElem!_pos d i h]
theorem A47 {s:ByteArray} {i:Nat} (h:i<s.size):R9 s i=some (((s.get! i).toNat:Nat):Int):=by
 unfold R9;rw [if_pos (by omega),Int.toNat_natCast,getElem!_pos s i h,A89 h]
theorem A5e (s:ByteArray):∀(m i f:Nat),s.size-i<m->i<=s.size->s.size<=1000000->s.size<=i+f->Kx s m i=some (!decide (0<=Lib.idxFuncFrom nmC true s f i)):=by
 intro m
 induction m with
 | zero=>intro i f h;omega
 | succ m ih =>
  intro i f h hi h9 hf;rw [Kx,Pb]
  by_cases hb:i<s.size
  ·rw [Az (dT (by omega)),A47 hb,sbd];have hx:=UInt8.toNat_lt (s.get! i);generalize hu:(s.get! i).toNat=u at *;have e:(bif (bif (bif (decide (((u:Nat):Int)<97)) then true else (decide (((u:Nat):Int)>122))) then (bif (decide (((u:Nat):Int)<48)) then true else (decide (((u:Nat):Int)>57))) else false) then (((u:Nat):Int) != 95) else false)=nmC u:=by
    unfold nmC;rw [Bool.eq_iff_iff];simp only [cond_eq_ite,Bool.if_true_left,Bool.and_eq_true,Bool.or_eq_true,decide_eq_true_eq,bne_iff_ne,ne_eq,Bool.not_eq_true',Bool.or_eq_false_iff,Bool.and_eq_false_iff,decide_eq_false_iff_not,beq_eq_false_iff_ne,Bool.if_false_right];omega
   rw [e]
   by_cases hn:nmC u=true
   ·rw [Az hn,dT ((Yn s f i hf).2 ⟨i,Nat.le_refl _,hb,by rw [hu];exact hn⟩)];rfl
   ·rw [An (by simpa using hn),ckb (by omega),show ((i:Int)+1)=((i+1:Nat):Int) by omega,ih (i+1) f (by omega) (by omega) h9 (by omega)];rw [decide_eq_decide.2];rw [Yn s f (i+1) (by omega),Yn s f i hf];constructor
    ·rintro ⟨j,h1,h2,h3⟩;exact ⟨j,by omega,h2,h3⟩
    ·rintro ⟨j,h1,h2,h3⟩;refine ⟨j,?_,h2,h3⟩;rcases Nat.lt_or_ge i j with h4|h4
     ·omega
     ·obtain rfl:j=i:=by omega
      rw [hu] at h3;exact absurd h3 hn
  ·rw [An (dF (by omega)),Pc,dF]
   ·rfl
   ·rw [Yn s f i hf];rintro ⟨j,h1,h2,_⟩;omega
theorem A8v (s:ByteArray):sEq s ⟨#[]⟩=decide (s.size=0):=by
 unfold sEq
 cases s with
 | mk d =>
  show decide (d.toList=[])=decide (d.size=0);rw [decide_eq_decide];constructor
  ·intro h;have:=congrArg List.length h;simpa using this
  ·intro h;rw [Array.eq_empty_of_size_eq_zero h]
theorem A6t {F:Nat} (hF:100<=F) (s:ByteArray):Qv F s=some (Y9 s):=by
 rw [Qv];unfold Y9 A6x;rw [A8v]
 by_cases h1:s.size=0\/s.size>12
 ·have hc:(bif (decide (((s.size:Nat):Int)<1)) then true else (decide (((s.size:Nat):Int)>12)))=true:=by
   rcases h1 with h|h
   ·rw [dT (by omega)];rfl
   ·rw [dT (show ((s.size:Nat):Int)>12 by omega)];cases decide (((s.size:Nat):Int)<1)<;>rfl
  rw [hc,gdF (by rfl),sbd,Az (c:=true) rfl,gdF (by rfl),sbd];simp only [cond_true];rcases h1 with h|h
  ·rw [dT h];rfl
  ·rw [dF (show ¬((s.size:Nat):Int)<=12 by omega)];cases decide (s.size=0)<;>rfl
 ·have hc:(bif (decide (((s.size:Nat):Int)<1)) then true else (decide (((s.size:Nat):Int)>12)))=false:=by
   rw [dF (by omega),dF (by omega)];rfl
  have hg:R9 s 0=some (((s.get! 0).toNat:Nat):Int):=A47 (i:=0) (by omega);rw [hc,gdT (by rfl),hg,sbd,An (c:=false) rfl,dF (show ¬s.size=0 by omega),dT (show ((s.size:Nat):Int)<=12 by omega)];rw [Option.getD_some];generalize hu:(((s.get! 0).toNat:Nat):Int)=u
  by_cases h2:u<97
  ·rw [dT h2,gdF (by rfl),sbd,Az (c:=true) rfl,Az (c:=true) rfl,dF (show ¬u>=97 by omega)];rfl
  ·rw [dF h2,gdT (by rfl),sbd,An (c:=false) rfl,dT (show u>=97 by omega)]
   by_cases h3:u>122
   ·rw [dT h3,Az (c:=true) rfl,dF (show ¬u<=122 by omega)];rfl
   ·rw [dF h3,An (c:=false) rfl,dT (show u<=122 by omega),show (0:Int)=((0:Nat):Int) from rfl,A5e s F 0 s.size (by omega) (by omega) (by omega) (by omega)];rfl
mutual
def cv:zE->zA
 | ⟨o,v,r,g,a⟩=>⟨o,v,r,g,cvL a⟩
def cvL:List zE->List zA
 | []=>[]
 | x::l=>cv x::cvL l
end
mutual
def nds:zE->Nat
 | ⟨_,_,_,_,a⟩=>1+T3 a
def T3:List zE->Nat
 | []=>0
 | x::l=>nds x+T3 l
end
mutual
def dpt:zE->Nat
 | ⟨_,_,_,_,a⟩=>1+Yf a
def Yf:List zE->Nat
 | []=>0
 | x::l=>max (dpt x) (Yf l)
end
theorem A1n (n:zE):cv n=⟨n.Op,n.Value_,n.Rays,n.Gates,cvL n.Args⟩:=by cases n;rfl
theorem U5 (n:zE):nds n=1+T3 n.Args:=by cases n;rfl
theorem A6e (n:zE):dpt n=1+Yf n.Args:=by cases n;rfl
theorem Wh:∀l:List zE,(cvL l).length=l.length
 | []=>rfl
 | x::l=>by show (cvL l).length+1=_;rw [Wh l];rfl
theorem Wg:∀{l:List zE} {i:Nat} {x:zE},l[i]? = some x->(cvL l)[i]? = some (cv x)
 | [],i,x,h=>by simp at h
 | y::l,0,x,h=>by cases h;rfl
 | y::l,i+1,x,h=>by
  have:l[i]? = some x:=h;exact Wg (l:=l) this
theorem Qo:∀{l:List zE} {x:zE},x∈l->nds x<=T3 l
 | y::l,x,h=>by
  show nds x<=nds y+T3 l;rcases List.mem_cons.1 h with rfl|h
  ·omega
  ·have:=Qo h;omega
theorem A12 (n:zE):1<=nds n:=by rw [U5];omega
theorem U4:∀l:List zE,l.length<=T3 l
 | []=>Nat.le_refl _
 | x::l=>by have:=U4 l;have:=A12 x;show l.length+1<=nds x+T3 l;omega
theorem A0m:∀{l:List zE} {i:Nat} {x:zE},l[i]? = some x->T3 (l.drop i)=nds x+T3 (l.drop (i+1)):=by
 intro l i x h;obtain ⟨h1,h2⟩:=List.getElem?_eq_some_iff.1 h;rw [List.drop_eq_getElem_cons h1,h2];rfl
theorem A6u {P:zE->Prop} (h:∀n,(∀x∈n.Args,P x)->P n):∀n,P n
 | ⟨o,v,r,g,a⟩=>h ⟨o,v,r,g,a⟩ λx hx=>A6u h x
termination_by n=>SizeOf.sizeOf n
decreasing_by
 have h9:=List.sizeOf_lt_of_mem hx;simp +arith at *;omega
theorem A6f:∀(n:zE),dpt n<=nds n:=by
 refine A6u λn ih=>?_;have go:∀l:List zE,(∀x∈l,dpt x<=nds x)->Yf l<=T3 l:=by
  intro l
  induction l with
  | nil=>intro _;exact Nat.le_refl _
  | cons x l ih =>
   intro h;show max (dpt x) (Yf l)<=nds x+T3 l;have:=h x (by simp);have:=ih λy hy=>h y (by simp [hy]);omega
 have:=go n.Args ih;have e1:=A6e n;have e2:=U5 n;omega
def cnt (m:Nat) (n:zE):Nat:=min (nds n) (m+1)
theorem Wt:∀(m F:Nat) (n:zE),m<=1000000->m+4<=F->E0 F n m=some (cnt m n:Int):=by
 intro m
 induction m using Nat.strongRecOn with
 | _ m ih =>
  intro F n hm hF;obtain ⟨F,rfl⟩:∃G,F=G+1:=⟨F-1,by omega⟩;show Jo (E0 F) n m F 1 0=_;have go:∀(k i c:Nat),i+1<=c->m+2<=k+c->c<=m+1->i<=n.Args.length->Jo (E0 F) n m k c i=some ((min (c+T3 (n.Args.drop i)) (m+1):Nat):Int):=by
   intro k
   induction k with
   | zero=>intro i c h0 h1 h2;omega
   | succ k ihk =>
    intro i c h0 h1 h2 h3;show Lq (E0 F) n m _ c i=_;unfold Lq Ng
    by_cases hi:i<n.Args.length
    ·by_cases hc:c<=m
     ·have hx:=List.getElem?_eq_getElem hi;generalize n.Args[i]=x at hx;have hs:=ih (m-c) (by omega) F x (by omega) (by omega);rw [show ((m-c:Nat):Int)=(m:Int)-c by omega] at hs;have hcn:cnt (m-c) x<=m-c+1:=by unfold cnt;omega
      have hc1:1<=cnt (m-c) x:=by have:=A12 x;unfold cnt;omega
      rw [dT (show (i:Int)<((n.Args.length:Nat):Int) by omega),dT (show (c:Int)<=m by omega),Az (c:=bif true then true else false) rfl,Hp i x rfl hx,ckb (by omega),hs,sbd,ckb (by omega),ckb (by omega),A0m hx];have:=ihk (i+1) (c+cnt (m-c) x) (by omega) (by omega) (by omega) (by omega);rw [show ((c:Int)+(cnt (m-c) x:Nat))=((c+cnt (m-c) x:Nat):Int) by omega,show (i:Int)+1=((i+1:Nat):Int) by omega,this]
      congr 2
      unfold cnt;omega
     ·rw [dT (show (i:Int)<((n.Args.length:Nat):Int) by omega),dF (show ¬(c:Int)<=m by omega),An (c:=bif true then false else false) rfl]
      congr 2
      omega
    ·rw [dF (show ¬(i:Int)<((n.Args.length:Nat):Int) by omega),An (c:=bif false then decide ((c:Int)<=m) else false) rfl,List.drop_eq_nil_of_le (by omega)]
     congr 2
     show c=min (c+0) (m+1);omega
  have:=go F 0 1 (by omega) (by omega) (by omega) (by omega);rw [List.drop_zero] at this;rw [show (1:Int)=((1:Nat):Int) from rfl,show (0:Int)=((0:Nat):Int) from rfl,this,cnt,U5]
theorem Yw:∀(m F:Nat) (n:zE),m<=1000000->m+4<=F->Bp F (cv n) m=some (cnt m n:Int):=by
 intro m
 induction m using Nat.strongRecOn with
 | _ m ih =>
  intro F n hm hF;obtain ⟨F,rfl⟩:∃G,F=G+1:=⟨F-1,by omega⟩;rw [A1n];show Cg (Bp F) ⟨n.Op,n.Value_,n.Rays,n.Gates,cvL n.Args⟩ m F 0 1=_;have hl:=Wh n.Args;have go:∀(k i c:Nat),i+1<=c->m+2<=k+c->c<=m+1->i<=n.Args.length->Cg (Bp F) ⟨n.Op,n.Value_,n.Rays,n.Gates,cvL n.Args⟩ m k i c=some ((min (c+T3 (n.Args.drop i)) (m+1):Nat):Int):=by
   intro k
   induction k with
   | zero=>intro i c h0 h1 h2;omega
   | succ k ihk =>
    intro i c h0 h1 h2 h3;show F9 (Bp F) ⟨n.Op,n.Value_,n.Rays,n.Gates,cvL n.Args⟩ m _ i c=_;unfold F9 Kt;dsimp only;rw [hl]
    by_cases hi:i<n.Args.length
    ·have hx:=List.getElem?_eq_getElem hi;generalize n.Args[i]=x at hx
     by_cases hc:c<=m
     ·have hs:=ih (m-c) (by omega) F x (by omega) (by omega);rw [show ((m-c:Nat):Int)=(m:Int)-c by omega] at hs;have hcn:cnt (m-c) x<=m-c+1:=by unfold cnt;omega
      have hc1:1<=cnt (m-c) x:=by have:=A12 x;unfold cnt;omega
      rw [Az (dT (by omega)),Hp i (cv x) rfl (Wg hx),An (dF (by omega)),ckb (by omega),hs,sbd,ckb (by omega),ckb (by omega),A0m hx];have:=ihk (i+1) (c+cnt (m-c) x) (by omega) (by omega) (by omega) (by omega);rw [show ((c:Int)+(cnt (m-c) x:Nat))=((c+cnt (m-c) x:Nat):Int) by omega,show (i:Int)+1=((i+1:Nat):Int) by omega,this]
      congr 2
      unfold cnt;omega
     ·rw [Az (dT (by omega)),Hp i (cv x) rfl (Wg hx),Az (dT (by omega))]
      congr 2
      omega
    ·rw [An (dF (by omega)),List.drop_eq_nil_of_le (by omega)]
     congr 2
     show c=min (c+0) (m+1);omega
  have:=go F 0 1 (by omega) (by omega) (by omega) (by omega);rw [List.drop_zero] at this;rw [show (1:Int)=((1:Nat):Int) from rfl,show (0:Int)=((0:Nat):Int) from rfl,this,cnt,U5]
theorem A0e:∀{l:List zE} {i:Nat} {x:zE},l[i]? = some x->Yf (l.drop i)=max (dpt x) (Yf (l.drop (i+1))):=by
 intro l i x h;obtain ⟨h1,h2⟩:=List.getElem?_eq_some_iff.1 h;rw [List.drop_eq_getElem_cons h1,h2];rfl
theorem A1o:∀(F:Nat) (n:zE),nds n<=1000000->nds n+3<=F->Gu F n=some (dpt n:Int)/\Fo F (cv n)=some (dpt n:Int):=by
 intro F
 induction F with
 | zero=>intro n _ h;omega
 | succ F ih =>
  intro n h1 h2;have hn:=U5 n;have hal:=U4 n.Args;have hd:=A6e n;have hsub:∀(i:Nat) x,n.Args[i]? = some x->Gu F x=some (dpt x:Int)/\Fo F (cv x)=some (dpt x:Int):=by
   intro i x hx;have:=Qo (List.mem_of_getElem? hx);exact ih x (by omega) (by omega)
  constructor
  ·have go:∀(k i c:Nat),n.Args.length+1<=k+i->i<=n.Args.length->c<=1000000->Jn (Gu F) n k c i=some ((1+max c (Yf (n.Args.drop i)):Nat):Int):=by
    intro k
    induction k with
    | zero=>intro i c h0 h1;omega
    | succ k ihk =>
     intro i c h0 h3 h4;show Lp (Gu F) n _ c i=_;unfold Lp Nf
     by_cases hi:i<n.Args.length
     ·have hx:=List.getElem?_eq_getElem hi;generalize n.Args[i]=x at hx;have hb:=A6f x;have:=Qo (List.mem_of_getElem? hx);rw [Az (dT (by omega)),Hp i x rfl hx,(hsub i x hx).1,sbd,ckb (by omega),A0e hx];have:=ihk (i+1) (max c (dpt x)) (by omega) (by omega) (by omega);rw [show (if (dpt x:Int)>c then (dpt x:Int) else c)=((max c (dpt x):Nat):Int) by split<;>omega,show (i:Int)+1=((i+1:Nat):Int) by omega,this]
      congr 2
      omega
     ·rw [An (dF (by omega)),List.drop_eq_nil_of_le (by omega),ckb (by omega)]
      congr 1
      show (1:Int)+c=((1+max c 0:Nat):Int);omega
   have:=go F 0 0 (by omega) (by omega) (by omega);rw [List.drop_zero] at this;show Jn (Gu F) n F 0 0=_;rw [show (0:Int)=((0:Nat):Int) from rfl,this]
   congr 2;omega
  ·have hl:=Wh n.Args;rw [A1n];have go:∀(k i c:Nat),n.Args.length+1<=k+i->i<=n.Args.length->c<=1000000->E7 (Fo F) ⟨n.Op,n.Value_,n.Rays,n.Gates,cvL n.Args⟩ k c i=some ((1+max c (Yf (n.Args.drop i)):Nat):Int):=by
    intro k
    induction k with
    | zero=>intro i c h0 h1;omega
    | succ k ihk =>
     intro i c h0 h3 h4;show J3 (Fo F) ⟨n.Op,n.Value_,n.Rays,n.Gates,cvL n.Args⟩ _ c i=_;unfold J3 Nn;dsimp only;rw [hl]
     by_cases hi:i<n.Args.length
     ·have hx:=List.getElem?_eq_getElem hi;generalize n.Args[i]=x at hx;have hb:=A6f x;have:=Qo (List.mem_of_getElem? hx);rw [Az (dT (by omega)),Hp i (cv x) rfl (Wg hx),(hsub i x hx).2,sbd,ckb (by omega),A0e hx];have:=ihk (i+1) (max c (dpt x)) (by omega) (by omega) (by omega);rw [show (if (dpt x:Int)>c then (dpt x:Int) else c)=((max c (dpt x):Nat):Int) by split<;>omega,show (i:Int)+1=((i+1:Nat):Int) by omega,this]
      congr 2
      omega
     ·rw [An (dF (by omega)),List.drop_eq_nil_of_le (by omega),ckb (by omega)]
      congr 1
      show (c:Int)+1=((1+max c 0:Nat):Int);omega
   have:=go F 0 0 (by omega) (by omega) (by omega);rw [List.drop_zero] at this;show E7 (Fo F) ⟨n.Op,n.Value_,n.Rays,n.Gates,cvL n.Args⟩ F 0 0=_;rw [show (0:Int)=((0:Nat):Int) from rfl,this]
   congr 2;omega
theorem A6c {l:List zE} {i:Nat} {x:zE} (h:l[i]? = some x):cvL (l.take (i+1))=cvL (l.take i)++[cv x]:=by
 rw [List.take_add_one,h];have:∀(a:List zE) (y:zE),cvL (a++[y])=cvL a++[cv y]:=by
  intro a y
  induction a with
  | nil=>rfl
  | cons z a ih=>show cv z::cvL (a++[y])=_;rw [ih];rfl
 exact this _ _
theorem A8i:∀(F:Nat) (n:zE),nds n<=1000000->nds n+3<=F->K5 F n=some (cv n):=by
 intro F
 induction F with
 | zero=>intro n _ h;omega
 | succ F ih =>
  intro n h1 h2;have hn:=U5 n;have hal:=U4 n.Args;have go:∀(k i:Nat),n.Args.length+1<=k+i->i<=n.Args.length->Mm (K5 F) n k (cvL (n.Args.take i)) i=some (cv n):=by
   intro k
   induction k with
   | zero=>intro i h0 h1;omega
   | succ k ihk =>
    intro i h0 h3;show Ml (K5 F) n _ _ i=_;unfold Ml P9
    by_cases hi:i<n.Args.length
    ·have hx:=List.getElem?_eq_getElem hi;generalize n.Args[i]=x at hx;have:=Qo (List.mem_of_getElem? hx);rw [Az (dT (by omega)),Hp i x rfl hx,ih x (by omega) (by omega),sbd,show apd 56 (cvL (n.Args.take i)) [cv x]=some (cvL (n.Args.take (i+1))) by
      unfold apd;rw [if_pos (by rw [Wh];simp;omega),A6c hx],sbd,ckb (by omega)]
     exact ihk (i+1) (by omega) (by omega)
    ·rw [An (dF (by omega)),List.take_of_length_le (by omega),A1n]
  exact go F 0 (by omega) (by omega)
end Go.Proofs.YtkjnafecmjakcaaGreatDoor
namespace Go.Proofs.YtkjnafecmjakcaaGreatDoor
open Go Go.RowKit Go.Eng
set_option maxRecDepth 10000
theorem A9u {op:Int} (h:8<=op/\op<=13):op=8\/op=9\/op=10\/op=11\/op=12\/op=13:=by omega
section
variable {F:Nat} {P:Aj} {ops:List Int}
end
def T.rnode:T->zE
 | .leaf op v=>⟨op,v,0,0,[]⟩
 | .un op r g a=>⟨op,0,r,g,[a.rnode]⟩
 | .bin op a b=>⟨op,0,0,0,[a.rnode,b.rnode]⟩
theorem Yz:∀t:T,cv t.rnode=t.node:=by
 intro t
 induction t with
 | leaf op v=>rfl
 | un op r g a ih=>show zA.mk op 0 r g [cv a.rnode]=_;rw [ih];rfl
 | bin op a b iha ihb=>show zA.mk op 0 0 0 [cv a.rnode,cv b.rnode]=_;rw [iha,ihb];rfl
def VT (n:zE):Prop:=∃t,okT true t/\n=t.rnode
def VF (n:zE):Prop:=∃t,okT false t/\n=t.rnode
theorem VT.inv {n:zE} (h:VT n):n.Value_=0/\(((n.Op=1\/n.Op=2)/\n.Rays=0/\n.Gates=0/\n.Args=[])\/((n.Op=3/\n.Rays=0/\n.Gates=0\/(n.Op=6\/n.Op=7)/\0<=n.Rays/\n.Rays<=3/\0<=n.Gates/\n.Gates<=3)/\∃x,n.Args=[x]/\VT x) \/
  ((n.Op=4\/n.Op=5)/\n.Rays=0/\n.Gates=0/\∃x y,n.Args=[x,y]/\VT x/\VT y)\/((8<=n.Op/\n.Op<=13)/\n.Rays=0/\n.Gates=0/\∃x y,n.Args=[x,y]/\VF x/\VF y)):=by
 obtain ⟨t,h,rfl⟩:=h
 cases t with
 | leaf op v=>simp only [okT] at h;exact ⟨h.2,.inl ⟨h.1,rfl,rfl,rfl⟩⟩
 | un op r g a=>simp only [okT] at h;exact ⟨rfl,.inr (.inl ⟨h.1,_,rfl,a,h.2,rfl⟩)⟩
 | bin op a b =>
  simp only [okT] at h;rcases h with h|h
  ·exact ⟨rfl,.inr (.inr (.inl ⟨h.1,rfl,rfl,_,_,rfl,⟨a,h.2.1,rfl⟩,b,h.2.2,rfl⟩))⟩
  ·exact ⟨rfl,.inr (.inr (.inr ⟨⟨h.1,h.2.1⟩,rfl,rfl,_,_,rfl,⟨a,h.2.2.1,rfl⟩,b,h.2.2.2,rfl⟩))⟩
theorem VF.inv {n:zE} (h:VF n):((n.Op=14/\0<=n.Value_/\n.Value_<=1000000000\/15<=n.Op/\n.Op<=24/\n.Value_=0)/\n.Rays=0/\n.Gates=0/\n.Args=[]) \/
  (n.Value_=0/\n.Op=25/\(0<=n.Rays/\n.Rays<=3/\0<=n.Gates/\n.Gates<=3)/\∃x,n.Args=[x]/\VT x) \/
  (n.Value_=0/\(n.Op=26\/n.Op=27)/\n.Rays=0/\n.Gates=0/\∃x y,n.Args=[x,y]/\VF x/\VF y/\y.Op<26):=by
 obtain ⟨t,h,rfl⟩:=h
 cases t with
 | leaf op v=>simp only [okT] at h;exact .inl ⟨h,rfl,rfl,rfl⟩
 | un op r g a=>simp only [okT] at h;exact .inr (.inl ⟨rfl,h.1.1,h.1.2,_,rfl,a,h.2,rfl⟩)
 | bin op a b =>
  simp only [okT] at h;refine .inr (.inr ⟨rfl,h.1,rfl,rfl,_,_,rfl,⟨a,h.2.1,rfl⟩,⟨b,h.2.2.1,rfl⟩,?_⟩);have:=h.2.2.2
  cases b<;>exact this
theorem Vw {n:zE} {o v r g:Int} {a:List zE} (h1:n.Op=o) (h2:n.Value_=v) (h3:n.Rays=r) (h4:n.Gates=g) (h5:n.Args=a):n=⟨o,v,r,g,a⟩:=by
 cases n;subst h1 h2 h3 h4 h5;rfl
theorem VT.leaf {n:zE} (h1:n.Op=1\/n.Op=2) (h2:n.Value_=0) (h3:n.Rays=0) (h4:n.Gates=0) (h5:n.Args=[]):VT n :=
 ⟨.leaf n.Op 0,by simp only [okT];exact ⟨h1,trivial⟩,Vw rfl h2 h3 h4 h5⟩
theorem VT.un {n x:zE} (h1:n.Op=3/\n.Rays=0/\n.Gates=0\/(n.Op=6\/n.Op=7)/\0<=n.Rays/\n.Rays<=3/\0<=n.Gates/\n.Gates<=3) (h2:n.Value_=0) (h5:n.Args=[x]) (hx:VT x):VT n:=by
 obtain ⟨t,ht,rfl⟩:=hx;exact ⟨.un n.Op n.Rays n.Gates t,by simp only [okT];exact ⟨h1,ht⟩,Vw rfl h2 rfl rfl h5⟩
theorem VT.bin {n x y:zE} (h1:n.Op=4\/n.Op=5) (h2:n.Value_=0) (h3:n.Rays=0) (h4:n.Gates=0) (h5:n.Args=[x,y]) (hx:VT x) (hy:VT y):VT n:=by
 obtain ⟨t,ht,rfl⟩:=hx;obtain ⟨u,hu,rfl⟩:=hy;exact ⟨.bin n.Op t u,by simp only [okT];exact .inl ⟨h1,ht,hu⟩,Vw rfl h2 h3 h4 h5⟩
theorem VT.cmp {n x y:zE} (h1:8<=n.Op/\n.Op<=13) (h2:n.Value_=0) (h3:n.Rays=0) (h4:n.Gates=0) (h5:n.Args=[x,y]) (hx:VF x) (hy:VF y):VT n:=by
 obtain ⟨t,ht,rfl⟩:=hx;obtain ⟨u,hu,rfl⟩:=hy;exact ⟨.bin n.Op t u,by simp only [okT];exact .inr ⟨h1.1,h1.2,ht,hu⟩,Vw rfl h2 h3 h4 h5⟩
theorem VF.leaf {n:zE} (h1:n.Op=14/\0<=n.Value_/\n.Value_<=1000000000\/15<=n.Op/\n.Op<=24/\n.Value_=0) (h3:n.Rays=0) (h4:n.Gates=0) (h5:n.Args=[]):VF n :=
 ⟨.leaf n.Op n.Value_,by simp only [okT];exact h1,Vw rfl rfl h3 h4 h5⟩
theorem VF.un {n x:zE} (h0:n.Value_=0) (h1:n.Op=25) (h2:0<=n.Rays/\n.Rays<=3/\0<=n.Gates/\n.Gates<=3) (h5:n.Args=[x]) (hx:VT x):VF n:=by
 obtain ⟨t,ht,rfl⟩:=hx;exact ⟨.un n.Op n.Rays n.Gates t,by simp only [okT];exact ⟨⟨h1,h2⟩,ht⟩,Vw rfl h0 rfl rfl h5⟩
theorem VF.bin {n x y:zE} (h0:n.Value_=0) (h1:n.Op=26\/n.Op=27) (h3:n.Rays=0) (h4:n.Gates=0) (h5:n.Args=[x,y]) (hx:VF x) (hy:VF y) (hy2:y.Op<26):VF n:=by
 obtain ⟨t,ht,rfl⟩:=hx;obtain ⟨u,hu,rfl⟩:=hy;exact ⟨.bin n.Op t u,by simp only [okT];exact ⟨h1,ht,hu,by cases u<;>exact hy2⟩,Vw rfl h0 h3 h4 h5⟩
open Classical in
theorem A76:∀(F:Nat) (n:zE),nds n<=100000->nds n+5<=F->Cw F n=some (decide (VT n))/\Fy F n=some (decide (VF n)):=by
 intro F
 induction F with
 | zero=>intro n _ h;omega
 | succ F ih =>
  intro n h1 h2;have hn:=U5 n;have hal:=U4 n.Args;have hsub:∀(i:Nat) x,n.Args[i]? = some x->Cw F x=some (decide (VT x))/\Fy F x=some (decide (VF x)):=by
   intro i x hx;have:=Qo (List.mem_of_getElem? hx);exact ih x (by omega) (by omega)
  constructor
  ·show J1 F (Cw F) (Fy F) n=_;have l4:∀(k i:Nat),n.Args.length+1<=k+i->i<=n.Args.length->Dk (Cw F) (Fy F) n k i=some (decide (∀x∈n.Args.drop i,if n.Op>=8 then VF x else VT x)):=by
    intro k
    induction k with
    | zero=>intro i h0 h3;omega
    | succ k ihk =>
     intro i h0 h3;show Fv (Cw F) (Fy F) n _ i=_;unfold Fv J2
     by_cases hi:i<n.Args.length
     ·have hx:=List.getElem?_eq_getElem hi;have hdr:=List.drop_eq_getElem_cons hi;generalize n.Args[i]=x at hx hdr;obtain ⟨s1,s2⟩:=hsub i x hx;have hk:=ihk (i+1) (by omega) (by omega);rw [show ((i+1:Nat):Int)=(i:Int)+1 by omega] at hk;rw [Az (dT (by omega)),hdr]
      by_cases h8:n.Op>=8
      ·rw [Az (dT h8),Hp i x rfl hx,s2,sbd]
       by_cases hv:VF x
       ·rw [dT hv,An (c:=!true) rfl,An (dF (by omega)),ckb (by omega),hk]
        congr 1
        rw [decide_eq_decide];simp only [List.mem_cons,forall_eq_or_imp,if_pos h8,hv,true_and]
       ·rw [dF hv,Az (c:=!false) rfl]
        congr 1
        refine (dF λh=>hv ?_).symm;have:=h x (by simp)
        rwa [if_pos h8] at this
      ·rw [An (dF h8),Az (dT (by omega)),Hp i x rfl hx,s1,sbd]
       by_cases hv:VT x
       ·rw [dT hv,An (c:=!true) rfl,ckb (by omega),hk]
        congr 1
        rw [decide_eq_decide];simp only [List.mem_cons,forall_eq_or_imp,if_neg h8,hv,true_and]
       ·rw [dF hv,Az (c:=!false) rfl]
        congr 1
        refine (dF λh=>hv ?_).symm;have:=h x (by simp)
        rwa [if_neg h8] at this
     ·rw [An (dF (by omega)),List.drop_eq_nil_of_le (by omega)];simp
   have l40:=l4 F 0 (by omega) (by omega);rw [List.drop_zero] at l40;have hg:((bif (bif (bif (bif (bif (bif (decide (n.Op<1)) then true else (decide (n.Op>13))) then true else (n.Value_ != 0)) then true else (bif (bif (n.Op != 6) then (n.Op != 7) else false) then (bif (n.Rays != 0) then true else (n.Gates != 0)) else false)) then true else (!(Ai n.Rays 0 3))) then true else (!(Ai n.Gates 0 3))) then true else false)=true)↔(n.Op<1\/n.Op>13\/n.Value_≠0\/(n.Op≠6/\n.Op≠7/\(n.Rays≠0\/n.Gates≠0))\/¬(0<=n.Rays/\n.Rays<=3)\/¬(0<=n.Gates/\n.Gates<=3)):=by
    unfold Ai;simp [cond_eq_ite];omega
   unfold J1 Fw Fx;generalize (bif (bif (bif (bif (bif (decide (n.Op<1)) then true else (decide (n.Op>13))) then true else (n.Value_ != 0)) then true else (bif (bif (n.Op != 6) then (n.Op != 7) else false) then (bif (n.Rays != 0) then true else (n.Gates != 0)) else false)) then true else (!(Ai n.Rays 0 3))) then true else (!(Ai n.Gates 0 3)))=b at hg ⊢
   cases b
   ·rw [An rfl];have hg':¬(n.Op<1\/n.Op>13\/n.Value_≠0\/(n.Op≠6/\n.Op≠7/\(n.Rays≠0\/n.Gates≠0))\/¬(0<=n.Rays/\n.Rays<=3)\/¬(0<=n.Gates/\n.Gates<=3)):=λh=>by have:=hg.2 h;cases this
    have fin:∀w:Nat,(w=if n.Op<=2 then 0 else if n.Op=3\/n.Op=6\/n.Op=7 then 1 else 2)->(bif (((n.Args.length:Nat):Int) != (w:Int)) then (some false) else (Dk (Cw F) (Fy F) n F 0))=some (decide (VT n)):=by
     intro w hw
     by_cases hl:n.Args.length=w
     ·rw [An (neF (by omega)),show Dk (Cw F) (Fy F) n F 0=_ from l40]
      congr 1
      rw [decide_eq_decide];constructor
      ·intro h
       match ha:n.Args,hl with
       | [],hl =>
        have:w=0:=hl.symm;have hop:n.Op<=2:=by split at hw<;>(try split at hw)<;>omega
        exact VT.leaf (by omega) (by omega) (by omega) (by omega) ha
       | [x],hl =>
        have hw1:w=1:=hl.symm;have hop:n.Op=3\/n.Op=6\/n.Op=7:=by split at hw<;>(try split at hw)<;>omega
        rw [ha] at h;have:=h x (by simp);rw [if_neg (by omega)] at this;exact VT.un (by omega) (by omega) ha this
       | [x,y],hl =>
        have hw1:w=2:=hl.symm;have hop:n.Op=4\/n.Op=5\/8<=n.Op:=by split at hw<;>(try split at hw)<;>omega
        rw [ha] at h;have e1:=h x (by simp);have e2:=h y (by simp)
        by_cases h8:n.Op>=8
        ·rw [if_pos h8] at e1 e2;exact VT.cmp (by omega) (by omega) (by omega) (by omega) ha e1 e2
        ·rw [if_neg h8] at e1 e2;exact VT.bin (by omega) (by omega) (by omega) (by omega) ha e1 e2
       | _::_::_::_,hl =>
        exfalso;simp only [List.length_cons] at hl
        split at hw<;>(try split at hw)<;>omega
      ·intro h x hx;obtain ⟨-,h|⟨h0,y,h,hy⟩|⟨h0,-,-,y,z,h,hy,hz⟩|⟨h0,-,-,y,z,h,hy,hz⟩⟩:=h.inv
       ·rw [h.2.2.2] at hx;cases hx
       ·rw [h,List.mem_singleton] at hx;subst hx;rw [if_neg (by omega)];exact hy
       ·rw [h] at hx;simp only [List.mem_cons,List.not_mem_nil,or_false] at hx;rw [if_neg (by omega)];rcases hx with rfl|rfl
        ·exact hy
        ·exact hz
       ·rw [h] at hx;simp only [List.mem_cons,List.not_mem_nil,or_false] at hx;rw [if_pos (by omega)];rcases hx with rfl|rfl
        ·exact hy
        ·exact hz
     ·rw [Az (neT (by omega)),dF];intro h;obtain ⟨-,h|⟨h0,y,h,hy⟩|⟨h0,-,-,y,z,h,hy,hz⟩|⟨h0,-,-,y,z,h,hy,hz⟩⟩:=h.inv
      ·rw [h.2.2.2] at hl;simp only [List.length_nil] at hl;split at hw<;>(try split at hw)<;>omega
      ·rw [h] at hl;simp only [List.length_cons,List.length_nil] at hl;split at hw<;>(try split at hw)<;>omega
      ·rw [h] at hl;simp only [List.length_cons,List.length_nil] at hl;split at hw<;>(try split at hw)<;>omega
      ·rw [h] at hl;simp only [List.length_cons,List.length_nil] at hl;split at hw<;>(try split at hw)<;>omega
    by_cases h2':n.Op<=2
    ·rw [Az (dT h2'),eqF (show n.Op≠4 by omega),eqF (show n.Op≠5 by omega),dF (show ¬n.Op>=8 by omega),An (c:=bif (bif false then true else false) then true else false) rfl];exact fin 0 (by rw [if_pos h2'])
    ·rw [An (dF h2')]
     by_cases h3':n.Op=3\/n.Op=6\/n.Op=7
     ·rw [eqF (show n.Op≠4 by omega),eqF (show n.Op≠5 by omega),dF (show ¬n.Op>=8 by omega),An (c:=bif (bif false then true else false) then true else false) rfl];exact fin 1 (by rw [if_neg h2',if_pos h3'])
     ·rw [Az (c:=bif (bif (n.Op==4) then true else (n.Op==5)) then true else (decide (n.Op>=8))) (by
       by_cases h4':n.Op=4
       ·rw [eqT h4'];rfl
       ·by_cases h5':n.Op=5
        ·rw [eqF h4',eqT h5'];rfl
        ·rw [eqF h4',eqF h5',dT (show n.Op>=8 by omega)];rfl)]
      exact fin 2 (by rw [if_neg h2',if_neg h3'])
   ·rw [Az rfl,dF];intro h;have hg':=hg.1 rfl;obtain ⟨h0,h|⟨h3,-⟩|⟨h3,h4,h5,-⟩|⟨h3,h4,h5,-⟩⟩:=h.inv<;>omega
  ·show Mq F (Cw F) (Fy F) n=_;have hg:((bif (bif (bif (bif (bif (bif (bif (decide (n.Op<14)) then true else (decide (n.Op>27))) then true else (!(Ai n.Value_ 0 1000000000))) then true else (bif (n.Op != 14) then (n.Value_ != 0) else false)) then true else (bif (n.Op != 25) then (bif (n.Rays != 0) then true else (n.Gates != 0)) else false)) then true else (!(Ai n.Rays 0 3))) then true else (!(Ai n.Gates 0 3))) then true else false)=true)↔(n.Op<14\/n.Op>27\/¬(0<=n.Value_/\n.Value_<=1000000000)\/(n.Op≠14/\n.Value_≠0)\/(n.Op≠25/\(n.Rays≠0\/n.Gates≠0))\/¬(0<=n.Rays/\n.Rays<=3)\/¬(0<=n.Gates/\n.Gates<=3)):=by
    unfold Ai;simp [cond_eq_ite];omega
   unfold Mq;generalize (bif (bif (bif (bif (bif (bif (decide (n.Op<14)) then true else (decide (n.Op>27))) then true else (!(Ai n.Value_ 0 1000000000))) then true else (bif (n.Op != 14) then (n.Value_ != 0) else false)) then true else (bif (n.Op != 25) then (bif (n.Rays != 0) then true else (n.Gates != 0)) else false)) then true else (!(Ai n.Rays 0 3))) then true else (!(Ai n.Gates 0 3)))=b at hg ⊢
   cases b
   ·rw [An rfl];have hg':¬(n.Op<14\/n.Op>27\/¬(0<=n.Value_/\n.Value_<=1000000000)\/(n.Op≠14/\n.Value_≠0)\/(n.Op≠25/\(n.Rays≠0\/n.Gates≠0))\/¬(0<=n.Rays/\n.Rays<=3)\/¬(0<=n.Gates/\n.Gates<=3)):=λh=>by have:=hg.2 h;cases this
    by_cases h25:n.Op=25
    ·rw [Az (eqT h25)]
     by_cases hl:n.Args.length=1
     ·match ha:n.Args,hl with
      | [x],_ =>
       have s:=(hsub 0 x (by rw [ha];rfl)).1;rw [Az (eqT (by simp)),R8,s,sbd]
       congr 1
       rw [decide_eq_decide];constructor
       ·intro h;exact VF.un (by omega) h25 (by omega) ha h
       ·intro h;rcases h.inv with ⟨h0,-⟩|⟨-,-,-,y,h,hy⟩|⟨-,h0,-⟩
        ·omega
        ·rw [ha] at h;cases h;exact hy
        ·omega
     ·rw [An (eqF (by omega)),dF];intro h;rcases h.inv with ⟨h0,-⟩|⟨-,-,-,y,h,hy⟩|⟨-,h0,-⟩
      ·omega
      ·rw [h] at hl;exact hl rfl
      ·omega
    ·rw [An (eqF h25)]
     by_cases h26:n.Op>=26
     ·rw [Az (dT h26)]
      by_cases hl:n.Args.length=2
      ·match ha:n.Args,hl with
       | [x,y],_ =>
        have sx:=(hsub 0 x (by rw [ha];rfl)).2;have sy:=(hsub 1 y (by rw [ha];rfl)).2;have hiff:VF n↔VF x/\VF y/\y.Op<26:=by
         constructor
         ·intro h;rcases h.inv with ⟨h0,-⟩|⟨-,h0,-⟩|⟨-,-,-,-,x',y',h,hx,hy,hy2⟩
          ·omega
          ·omega
          ·rw [ha] at h;cases h;exact ⟨hx,hy,hy2⟩
         ·rintro ⟨hx,hy,hy2⟩;exact VF.bin (by omega) (by omega) (by omega) (by omega) ha hx hy hy2
        rw [Az (eqT (by simp)),R8,sx,sbd]
        by_cases hx:VF x
        ·rw [dT hx,Az rfl,Xh,sy,sbd]
         by_cases hy:VF y
         ·rw [dT hy,Az rfl,Xh]
          congr 1
          rw [decide_eq_decide,hiff];exact ⟨λh=>⟨hx,hy,h⟩,λh=>h.2.2⟩
         ·rw [dF hy,An rfl,dF λh=>hy (hiff.1 h).2.1]
        ·rw [dF hx,An rfl,dF λh=>hx (hiff.1 h).1]
      ·rw [An (eqF (by omega)),dF];intro h;rcases h.inv with ⟨h0,-⟩|⟨-,h0,-⟩|⟨-,-,-,-,x',y',h,hx,hy,hy2⟩
       ·omega
       ·omega
       ·rw [h] at hl;exact hl rfl
     ·rw [An (dF h26)]
      congr 1
      by_cases hl:n.Args=[]
      ·rw [eqT (by rw [hl];rfl),dT (VF.leaf (by omega) (by omega) (by omega) hl)]
      ·rw [eqF (by have:=List.length_pos_iff.2 hl;omega),dF];intro h;rcases h.inv with ⟨-,-,-,h⟩|⟨-,h0,-⟩|⟨-,h0,-⟩
       ·exact hl h
       ·omega
       ·omega
   ·rw [Az rfl,dF];intro h;have hg':=hg.1 rfl;rcases h.inv with ⟨h0,h3,h4,-⟩|⟨h0,h1,h3,-⟩|⟨h0,h1,h3,h4,-⟩<;>omega
def isX (k:Bool) (u:zA):Bool:=bif k then sift_isCondition u else sift_isValue u
structure StG (self_:zA->Option Bool) (p:zA) (k:Bool) (L:Nat->Int->Option Bool):Prop where
 step:∀n (i:Nat) u b,p.Args[i]? = some u->p.Args.length<=2->self_ u=some b->L (n+1) (i:Int)=bif (bif (!(isX k u)) then true else (!b)) then (some false) else L n ((i:Int)+1)
 fin:∀n x,(p.Args.length:Int)<=x->L (n+1) x=bif (decide (p.Op<26)) then (some true) else ((getI p.Args 1).bind λu=>some (decide (u.Op<26)))
theorem Xx {self_:zA->Option Bool} {x b:Bool} {u:zA} {A:Option Bool} (hs:self_ u=some b):((gd ((!x)==false&&true) (self_ u) default).bind λy=>bif (bif (!x) then true else (!y)) then (some false) else A)=bif (bif (!x) then true else (!b)) then (some false) else A:=by
 cases x
 ·rw [gdF (g:=(!false)==false&&true) rfl,sbd];rfl
 ·rw [gdT (g:=(!true)==false&&true) rfl,hs,sbd]
section
variable {self_:zA->Option Bool} {p:zA}
theorem sg2:StG self_ p true (Jy self_ p):=by
 refine ⟨λn i u b hi hl hs=>?_,λn x hx=>?_⟩
 ·have hlt:=(List.getElem?_eq_some_iff.1 hi).1;show Ch self_ p _ _=_;rw [Ch,Az (dT (by omega)),Hp i u rfl hi,ckb (by omega),Xx hs];rfl
 ·show Ch self_ p _ _=_;rw [Ch,An (dF (by omega))];rfl
theorem sg4:StG self_ p true (Jz self_ p):=by
 refine ⟨λn i u b hi hl hs=>?_,λn x hx=>?_⟩
 ·have hlt:=(List.getElem?_eq_some_iff.1 hi).1;show Ci self_ p _ _=_;rw [Ci,Az (dT (by omega)),Hp i u rfl hi,ckb (by omega),Xx hs];rfl
 ·show Ci self_ p _ _=_;rw [Ci,An (dF (by omega))];rfl
theorem sg6:StG self_ p true (K0 self_ p):=by
 refine ⟨λn i u b hi hl hs=>?_,λn x hx=>?_⟩
 ·have hlt:=(List.getElem?_eq_some_iff.1 hi).1;show Cj self_ p _ _=_;rw [Cj,Az (dT (by omega)),Hp i u rfl hi,ckb (by omega),Xx hs];rfl
 ·show Cj self_ p _ _=_;rw [Cj,An (dF (by omega))];rfl
theorem sg8:StG self_ p false (K1 self_ p):=by
 refine ⟨λn i u b hi hl hs=>?_,λn x hx=>?_⟩
 ·have hlt:=(List.getElem?_eq_some_iff.1 hi).1;show Ck self_ p _ _=_;rw [Ck,Az (dT (by omega)),Hp i u rfl hi,ckb (by omega),Xx hs];rfl
 ·show Ck self_ p _ _=_;rw [Ck,An (dF (by omega))];rfl
theorem B29:StG self_ p true (Ku self_ p):=by
 refine ⟨λn i u b hi hl hs=>?_,λn x hx=>?_⟩
 ·have hlt:=(List.getElem?_eq_some_iff.1 hi).1;show E8 self_ p _ _=_;rw [E8,Az (dT (by omega)),Hp i u rfl hi,ckb (by omega),Xx hs];rfl
 ·show E8 self_ p _ _=_;rw [E8,An (dF (by omega))];rfl
theorem B1r:StG self_ p true (Kv self_ p):=by
 refine ⟨λn i u b hi hl hs=>?_,λn x hx=>?_⟩
 ·have hlt:=(List.getElem?_eq_some_iff.1 hi).1;show E9 self_ p _ _=_;rw [E9,Az (dT (by omega)),Hp i u rfl hi,ckb (by omega),Xx hs];rfl
 ·show E9 self_ p _ _=_;rw [E9,An (dF (by omega))];rfl
theorem StG.all {k:Bool} {L:Nat->Int->Option Bool} (h:StG self_ p k L) (hl:p.Args.length<=2) (hop:p.Op<26\/p.Args.length=2) (hs:∀(i:Nat) u,p.Args[i]? = some u->∃b,self_ u=some b) {F:Nat} (hF:4<=F) :
  ∃b,L F 0=some b/\(b=true->(∀(i:Nat) u,p.Args[i]? = some u->isX k u=true/\self_ u=some true)/\(p.Op<26\/∃u,p.Args[1]? = some u/\u.Op<26)):=by
 have go:∀(n i:Nat),p.Args.length+1<=n+i->i<=p.Args.length->∃b,L n i=some b/\(b=true->(∀(j:Nat) u,i<=j->p.Args[j]? = some u->isX k u=true/\self_ u=some true)/\(p.Op<26\/∃u,p.Args[1]? = some u/\u.Op<26)):=by
  intro n
  induction n with
  | zero=>intro i h0 h1;omega
  | succ n ih =>
   intro i h0 h1
   by_cases hi:i<p.Args.length
   ·have hx:=List.getElem?_eq_getElem hi;generalize p.Args[i]=u at hx;obtain ⟨b,hb⟩:=hs i u hx;rw [h.step n i u b hx hl hb]
    cases hc:(bif (!(isX k u)) then true else (!b))
    ·rw [An rfl];have hk:isX k u=true/\b=true:=by revert hc;cases isX k u<;>cases b<;>simp
     obtain ⟨c,c1,c2⟩:=ih (i+1) (by omega) (by omega);refine ⟨c,c1,λhc=>⟨λj v hj hv=>?_,(c2 hc).2⟩⟩
     by_cases e:j=i
     ·subst e;rw [hx] at hv;cases hv;exact ⟨hk.1,by rw [hb,hk.2]⟩
     ·exact (c2 hc).1 j v (by omega) hv
    ·rw [Az rfl];exact ⟨false,rfl,λh=>by cases h⟩
   ·rw [h.fin n i (by omega)]
    by_cases h26:p.Op<26
    ·rw [Az (dT h26)];exact ⟨true,rfl,λ_=>⟨λj u hj hu=>by have:=(List.getElem?_eq_some_iff.1 hu).1;omega,.inl h26⟩⟩
    ·rw [An (dF h26)];have h2:1<p.Args.length:=by omega
     have hx:=List.getElem?_eq_getElem h2;rw [show (1:Int)=((1:Nat):Int) from rfl,Hp 1 _ rfl hx];exact ⟨_,rfl,λhb=>⟨λj u hj hu=>by have:=(List.getElem?_eq_some_iff.1 hu).1;omega,.inr ⟨_,hx,of_decide_eq_true hb⟩⟩⟩
 obtain ⟨b,h1,h2⟩:=go F 0 (by omega) (by omega);exact ⟨b,h1,λhb=>⟨λi u hu=>(h2 hb).1 i u (by omega) hu,(h2 hb).2⟩⟩
end
theorem orI {x y:Bool} (h:(bif x then true else y)=false):x=false/\y=false:=by cases x<;>cases y<;>simp_all
theorem B1w {a b:Int} (h:(a != b)=false):a=b:=by simpa using h
theorem grd {P:Prop} {X:Option Bool} {len a v r g vm rm:Int} (hX:len=a->0<=v->0<=r->0<=g->v<=vm->r<=rm->g<=rm->∃b,X=some b/\(b=true->P)) :
  ∃b,(bif (bif (bif (bif (len != a) then true else (decide ((if g<if r<v then r else v then g else if r<v then r else v)<0))) then true else (decide (v>vm))) then true else (decide ((if g>r then g else r)>rm))) then (some false) else X)=some b/\(b=true->P):=by
 cases h:(bif (bif (bif (len != a) then true else (decide ((if g<if r<v then r else v then g else if r<v then r else v)<0))) then true else (decide (v>vm))) then true else (decide ((if g>r then g else r)>rm)))
 ·rw [An rfl];obtain ⟨h,h4⟩:=orI h;obtain ⟨h,h3⟩:=orI h;obtain ⟨h1,h2⟩:=orI h;have h1:=B1w h1;have h2:=of_decide_eq_false h2;have h3:=of_decide_eq_false h3;have h4:=of_decide_eq_false h4;have h5:0<=v/\0<=r/\0<=g:=by split at h2<;>split at h2<;>omega
  have h6:r<=rm/\g<=rm:=by split at h4<;>omega
  exact hX h1 h5.1 h5.2.1 h5.2.2 (by omega) h6.1 h6.2
 ·rw [Az rfl];exact ⟨false,rfl,λh=>by cases h⟩
theorem Wn {u:zA}:sift_isCondition u=true↔1<=u.Op/\u.Op<=13:=by unfold sift_isCondition;simp [cond_eq_ite]
theorem Wo {u:zA}:sift_isValue u=true↔14<=u.Op/\u.Op<=27:=by unfold sift_isValue;simp [cond_eq_ite]
theorem VT.op {n:zE} (h:VT n):1<=n.Op/\n.Op<=13:=by obtain ⟨-,h|⟨h,-⟩|⟨h,-⟩|⟨h,-⟩⟩:=h.inv<;>omega
theorem VF.op {n:zE} (h:VF n):14<=n.Op/\n.Op<=27:=by rcases h.inv with ⟨h,-⟩|⟨-,h,-⟩|⟨-,h,-⟩<;>omega
theorem Wi (n:zE):(cv n).Op=n.Op:=by rw [A1n]
theorem A5q:∀(F:Nat) (n:zE),nds n<=100000->nds n+5<=F->∃b,Bq F (cv n)=some b/\(b=true->VT n\/VF n):=by
 intro F
 induction F with
 | zero=>intro n _ h;omega
 | succ F ih =>
  intro n h1 h2;have hn:=U5 n;have hal:=U4 n.Args;have hl:=Wh n.Args;have hsub:∀(i:Nat) x,n.Args[i]? = some x->∃b,Bq F (cv x)=some b/\(b=true->VT x\/VF x):=by
   intro i x hx;have:=Qo (List.mem_of_getElem? hx);exact ih x (by omega) (by omega)
  have hs:∀(i:Nat) u,(cvL n.Args)[i]? = some u->∃b,Bq F u=some b:=by
   intro i u hu;have hi:=(List.getElem?_eq_some_iff.1 hu).1;have hx:=List.getElem?_eq_getElem (l:=n.Args) (i:=i) (by omega);have:=Wg hx;rw [hu] at this
   cases this
   obtain ⟨b,hb,-⟩:=hsub i _ hx;exact ⟨b,hb⟩
  have hT:∀(i:Nat) x,n.Args[i]? = some x->isX true (cv x)=true/\Bq F (cv x)=some true->VT x:=by
   rintro i x hx ⟨k1,k2⟩;obtain ⟨b,hb,hv⟩:=hsub i x hx;rw [k2] at hb;cases hb
   have:=Wn.1 (show sift_isCondition (cv x)=true from k1);rw [Wi] at this;exact (hv rfl).resolve_right λh=>by have:=h.op;omega
  have hV:∀(i:Nat) x,n.Args[i]? = some x->isX false (cv x)=true/\Bq F (cv x)=some true->VF x:=by
   rintro i x hx ⟨k1,k2⟩;obtain ⟨b,hb,hv⟩:=hsub i x hx;rw [k2] at hb;cases hb
   have:=Wo.1 (show sift_isValue (cv x)=true from k1);rw [Wi] at this;exact (hv rfl).resolve_left λh=>by have:=h.op;omega
  rw [A1n];show ∃b,E6 F (Bq F) ⟨n.Op,n.Value_,n.Rays,n.Gates,cvL n.Args⟩=some b/\_;unfold E6;dsimp only;rw [hl];have one:∀{L:Nat->Int->Option Bool},StG (Bq F) ⟨n.Op,n.Value_,n.Rays,n.Gates,cvL n.Args⟩ true L->n.Args.length=1->n.Op<26->∃b,L F 0=some b/\(b=true->∃x,n.Args=[x]/\VT x):=by
   intro L hL hlen hop;obtain ⟨b,b1,b2⟩:=hL.all (by dsimp only;omega) (.inl hop) hs (F:=F) (by omega);refine ⟨b,b1,λhb=>?_⟩
   match ha:n.Args,hlen with
   | [x],_=>exact ⟨x,rfl,hT 0 x (by rw [ha];rfl) ((b2 hb).1 0 (cv x) (by dsimp only;rw [ha];rfl))⟩
  have two:∀{k:Bool} {L:Nat->Int->Option Bool},StG (Bq F) ⟨n.Op,n.Value_,n.Rays,n.Gates,cvL n.Args⟩ k L->n.Args.length=2->∃b,L F 0=some b/\(b=true->∃x y,n.Args=[x,y]/\(k=true->VT x/\VT y)/\(k=false->VF x/\VF y)/\(n.Op<26\/y.Op<26)):=by
   intro k L hL hlen;obtain ⟨b,b1,b2⟩:=hL.all (by dsimp only;omega) (.inr (by dsimp only;omega)) hs (F:=F) (by omega);refine ⟨b,b1,λhb=>?_⟩
   match ha:n.Args,hlen with
   | [x,y],_ =>
    obtain ⟨c1,c2⟩:=b2 hb;have d1:=c1 0 (cv x) (by dsimp only;rw [ha];rfl);have d2:=c1 1 (cv y) (by dsimp only;rw [ha];rfl);refine ⟨x,y,rfl,λhk=>?_,λhk=>?_,c2.imp id λ⟨u,hu,hu2⟩=>?_⟩
    ·subst hk;exact ⟨hT 0 x (by rw [ha];rfl) d1,hT 1 y (by rw [ha];rfl) d2⟩
    ·subst hk;exact ⟨hV 0 x (by rw [ha];rfl) d1,hV 1 y (by rw [ha];rfl) d2⟩
    ·dsimp only at hu;rw [ha] at hu;have:cv y=u:=Option.some.inj hu;rw [←this,Wi] at hu2;exact hu2
  have zero:∀{L:Nat->Int->Option Bool},StG (Bq F) ⟨n.Op,n.Value_,n.Rays,n.Gates,cvL n.Args⟩ true L->n.Args.length=0->n.Op<26->∃b,L F 0=some b:=by
   intro L hL hlen hop;obtain ⟨b,b1,-⟩:=hL.all (by dsimp only;omega) (.inl hop) hs (F:=F) (by omega);exact ⟨b,b1⟩
  have nil:n.Args.length=0->n.Args=[]:=List.eq_nil_of_length_eq_zero
  by_cases h3:n.Op=3
  ·rw [Az (eqT h3)];refine grd λa1 a2 a3 a4 a5 a6 a7=>?_;obtain ⟨b,b1,b2⟩:=one sg2 (by omega) (by omega);exact ⟨b,b1,λhb=>by obtain ⟨x,e,hx⟩:=b2 hb;exact .inl (VT.un (by omega) (by omega) e hx)⟩
  rw [An (eqF h3)]
  by_cases h45:n.Op=4\/n.Op=5
  ·rw [Az (by rcases h45 with h|h<;>rw [h]<;>rfl)]
   refine grd λa1 a2 a3 a4 a5 a6 a7=>?_;obtain ⟨b,b1,b2⟩:=two sg4 (by omega);exact ⟨b,b1,λhb=>by obtain ⟨x,y,e,hx,-,-⟩:=b2 hb;exact .inl (VT.bin h45 (by omega) (by omega) (by omega) e (hx rfl).1 (hx rfl).2)⟩
  rw [An (by rw [eqF (show n.Op≠4 by omega),eqF (show n.Op≠5 by omega)];rfl)]
  by_cases h67:n.Op=6\/n.Op=7\/n.Op=25
  ·rw [Az (by rcases h67 with h|h|h<;>rw [h]<;>rfl)]
   refine grd λa1 a2 a3 a4 a5 a6 a7=>?_;obtain ⟨b,b1,b2⟩:=one sg6 (by omega) (by omega);refine ⟨b,b1,λhb=>?_⟩;obtain ⟨x,e,hx⟩:=b2 hb
   by_cases h25:n.Op=25
   ·exact .inr (VF.un (by omega) h25 (by omega) e hx)
   ·exact .inl (VT.un (by omega) (by omega) e hx)
  rw [An (by rw [eqF (show n.Op≠6 by omega),eqF (show n.Op≠7 by omega),eqF (show n.Op≠25 by omega)];rfl)]
  by_cases h8:(8<=n.Op/\n.Op<=13)\/n.Op=26\/n.Op=27
  ·rw [Az (by
    rcases h8 with ⟨h,h'⟩|h|h
    ·rw [dT (show n.Op>=8 by omega),dT h'];rfl
    ·rw [h];rfl
    ·rw [h];rfl)]
   refine grd λa1 a2 a3 a4 a5 a6 a7=>?_;obtain ⟨b,b1,b2⟩:=two sg8 (by omega);refine ⟨b,b1,λhb=>?_⟩;obtain ⟨x,y,e,-,hx,h26⟩:=b2 hb
   by_cases hc:8<=n.Op/\n.Op<=13
   ·exact .inl (VT.cmp hc (by omega) (by omega) (by omega) e (hx rfl).1 (hx rfl).2)
   ·exact .inr (VF.bin (by omega) (by omega) (by omega) (by omega) e (hx rfl).1 (hx rfl).2 (by omega))
  rw [An (by
   rw [eqF (show n.Op≠26 by omega),eqF (show n.Op≠27 by omega)]
   by_cases c:n.Op>=8
   ·rw [dT c,dF (show ¬n.Op<=13 by omega)];rfl
   ·rw [dF c];rfl)]
  by_cases h14:n.Op=14
  ·rw [Az (eqT h14)];refine grd λa1 a2 a3 a4 a5 a6 a7=>?_;obtain ⟨b,b1⟩:=zero B29 (by omega) (by omega);exact ⟨b,b1,λ_=>.inr (VF.leaf (by omega) (by omega) (by omega) (nil (by omega)))⟩
  rw [An (eqF h14)]
  cases hc:sift_isCondition ⟨n.Op,n.Value_,n.Rays,n.Gates,cvL n.Args⟩
  ·cases hv:sift_isValue ⟨n.Op,n.Value_,n.Rays,n.Gates,cvL n.Args⟩
   ·rw [Az (c:=bif !false then !false else false) rfl];exact ⟨false,rfl,λh=>by cases h⟩
   ·have hv:=Wo.1 hv;dsimp only at hv;rw [An (c:=bif !false then !true else false) rfl];refine grd λa1 a2 a3 a4 a5 a6 a7=>?_;obtain ⟨b,b1⟩:=zero B1r (by omega) (by omega);exact ⟨b,b1,λ_=>.inr (VF.leaf (by omega) (by omega) (by omega) (nil (by omega)))⟩
  ·have hc:=Wn.1 hc;dsimp only at hc;rw [An (c:=bif !true then !(sift_isValue ⟨n.Op,n.Value_,n.Rays,n.Gates,cvL n.Args⟩) else false) rfl];refine grd λa1 a2 a3 a4 a5 a6 a7=>?_;obtain ⟨b,b1⟩:=zero B1r (by omega) (by omega);exact ⟨b,b1,λ_=>.inl (VT.leaf (by omega) (by omega) (by omega) (by omega) (nil (by omega)))⟩
theorem A5p {F:Nat} {n:zE} (h1:nds n<=100000) (h2:2*nds n+100<=F):∃b,Bq F (cv n)=some b /\
  (∃c,Cw F n=some c/\(c=true↔VT n)/\(sift_isCondition (cv n)=true->b=c)/\(sift_isCondition (cv n)=false->c=false)) /\
  (∃c,Fy F n=some c/\(c=true↔VF n)/\(sift_isValue (cv n)=true->b=c)/\(sift_isValue (cv n)=false->c=false)):=by
 classical
 obtain ⟨b,b1,b2⟩:=A5q F n h1 (by omega);obtain ⟨c1,c2⟩:=A76 F n h1 (by omega);have tsz:∀t:T,t.size<=nds t.rnode:=by
  intro t
  induction t with
  | leaf op v=>simp [T.size,T.rnode,nds,T3]
  | un op r g a ih=>simp only [T.size,T.rnode,nds,T3];omega
  | bin op a b iha ihb=>simp only [T.size,T.rnode,nds,T3];omega
 have bt:VT n\/VF n->b=true:=by
  rintro (⟨t,ht,rfl⟩|⟨t,ht,rfl⟩)
  all_goals
   have:=Xw t _ F ht (by have:=tsz t;omega);rw [Yz,this] at b1;exact (Option.some.inj b1).symm
 refine ⟨b,b1,⟨_,c1,decide_eq_true_iff,λhc=>?_,λhc=>?_⟩,_,c2,decide_eq_true_iff,λhc=>?_,λhc=>?_⟩
 ·have hop:=Wn.1 hc;rw [Wi] at hop
  by_cases h:VT n
  ·rw [dT h];exact bt (.inl h)
  ·rw [dF h]
   cases b
   ·rfl
   ·rcases b2 rfl with h'|h'
    ·exact absurd h' h
    ·have:=h'.op;omega
 ·refine dF λh=>?_;have:=h.op;rw [Wn.2 (by rw [Wi];exact this)] at hc;cases hc
 ·have hop:=Wo.1 hc;rw [Wi] at hop
  by_cases h:VF n
  ·rw [dT h];exact bt (.inr h)
  ·rw [dF h]
   cases b
   ·rfl
   ·rcases b2 rfl with h'|h'
    ·have:=h'.op;omega
    ·exact absurd h' h
 ·refine dF λh=>?_;have:=h.op;rw [Wo.2 (by rw [Wi];exact this)] at hc;cases hc
theorem A4e:∀t:T,nds t.rnode=t.size/\dpt t.rnode=t.depth:=by
 intro t
 induction t with
 | leaf op v=>simp [T.size,T.depth,T.rnode,nds,T3,dpt,Yf]
 | un op r g a ih=>simp only [T.size,T.depth,T.rnode,nds,T3,dpt,Yf];omega
 | bin op a b iha ihb=>simp only [T.size,T.depth,T.rnode,nds,T3,dpt,Yf];omega
def Fr (tok:List UInt8):Prop:=tok=[40]\/tok=[41]\/tok=[58]\/tok=[59]
def B19 (c:UInt8):Bool:=c==32||c==40||c==41||c==59||c==58
def lo (f:Nat->List UInt8):Nat->List UInt8->List UInt8
 | _,[]=>[]
 | i,c::s=>(if B19 c=true then f i else [])++c::lo f (i+1) s
section
variable {self_:zA->zA->Option Bool} {p q u v:zA} {F i:Nat} {b:Bool}
end
def InSp (x y:zC):Prop:=x.Lo<=y.Lo/\y.Lo<=y.Hi/\y.Hi<=x.Hi
def RV (x y:zD):Prop:=(x=noV/\y=noV)\/(x.has=true/\y.has=true/\InSp x.span y.span)
def RT (t u:Int):Prop:=(1<=t/\t<=3)/\(1<=u/\u<=3)/\(t=2\/u=t)
theorem RT.mx {a b c d:Int} (h:RT a b) (h':RT c d):RT (mx a c) (mx b d):=by unfold RT Go.Proofs.YtkjnafecmjakcaaGreatDoor.mx at *;split<;>split<;>omega
theorem RT.mn {a b c d:Int} (h:RT a b) (h':RT c d):RT (mn a c) (mn b d):=by unfold RT Go.Proofs.YtkjnafecmjakcaaGreatDoor.mn at *;split<;>split<;>omega
theorem RT.tri {a b c d:Prop} [Decidable a] [Decidable b] [Decidable c] [Decidable d] (h1:a->c) (h2:¬a->¬b->¬c/\¬d):RT (tri a b) (tri c d):=by
 unfold RT Go.Proofs.YtkjnafecmjakcaaGreatDoor.tri
 by_cases ha:a
 ·have:=h1 ha;simp [ha,this]
 ·by_cases hb:b
  ·simp only [if_neg ha,if_pos hb];refine ⟨by omega,?_,.inl trivial⟩
   split
   ·omega
   ·split<;>omega
  ·have:=h2 ha hb;simp [ha,hb,this.1,this.2]
theorem A09 {op:Int} {x x' y y':zC} (hx:InSp x x') (hy:InSp y y'):RT (Vg op x y) (Vg op x' y'):=by
 obtain ⟨a1,a2,a3⟩:=hx;obtain ⟨b1,b2,b3⟩:=hy;unfold Vg
 split
 ·exact RT.tri (by omega) (by omega)
 ·split
  ·exact RT.tri (by omega) (by omega)
  ·split
   ·refine RT.tri ?_ ?_
    ·unfold mx mn;split<;>split<;>split<;>split<;>omega
    ·unfold mx mn;split<;>split<;>split<;>split<;>omega
   ·refine RT.tri ?_ ?_
    ·omega
    ·unfold mx mn;split<;>split<;>split<;>split<;>omega
theorem A4u {op:Int} {x x' y y':zD} (hx:RV x x') (hy:RV y y'):RT (Xb op x y) (Xb op x' y'):=by
 rcases hx with ⟨rfl,rfl⟩|⟨h1,h2,h3⟩
 ·unfold Xb RT;simp [noV]
 ·rcases hy with ⟨rfl,rfl⟩|⟨k1,k2,k3⟩
  ·unfold Xb RT;simp [noV]
  ·have n1:¬(x.has=false\/y.has=false):=by simp [h1,k1]
   have n2:¬(x'.has=false\/y'.has=false):=by simp [h2,k2]
   unfold Xb;simp only [if_neg n1,if_neg n2]
   by_cases c:op=10\/op=11
   ·simp only [if_pos c];exact A09 k3 h3
   ·simp only [if_neg c];exact A09 h3 k3
theorem A5r {op:Int} {x x' y y':zD} (hx:RV x x') (hy:RV y y'):RV (Yl op x y) (Yl op x' y'):=by
 rcases hx with ⟨rfl,rfl⟩|⟨h1,h2,h3⟩
 ·exact .inl ⟨rfl,rfl⟩
 ·rcases hy with ⟨rfl,rfl⟩|⟨k1,k2,k3⟩
  ·exact .inl ⟨by unfold Yl;rw [if_pos (.inr rfl)],by unfold Yl;rw [if_pos (.inr rfl)]⟩
  ·refine .inr ?_;have n1:¬(x.has=false\/y.has=false):=by simp [h1,k1]
   have n2:¬(x'.has=false\/y'.has=false):=by simp [h2,k2]
   unfold InSp at *;unfold Yl;simp only [if_neg n1,if_neg n2]
   by_cases c:op=27
   ·simp only [if_pos c];exact ⟨trivial,trivial,by omega⟩
   ·simp only [if_neg c];exact ⟨trivial,trivial,by omega⟩
theorem A5h {op:Int} {l:List Int} {f g:Int->Int} (h:∀o∈l,RT (f o) (g o)):RT (Tq op l f) (Tq op l g):=by
 have key:∀(F:Int->Int->Int),(∀a b c d,RT a b->RT c d->RT (F a c) (F b d))->∀(l:List Int),(∀o∈l,RT (f o) (g o))->∀x y,RT x y->RT (l.foldl (λa o=>F a (f o)) x) (l.foldl (λa o=>F a (g o)) y):=by
  intro F hF l
  induction l with
  | nil=>intro _ x y hxy;exact hxy
  | cons o l ih=>intro hl x y hxy;exact ih (λp hp=>hl p (by simp [hp])) _ _ (hF _ _ _ _ hxy (hl o (by simp)))
 unfold Tq
 split
 ·exact key Go.Proofs.YtkjnafecmjakcaaGreatDoor.mn (λ_ _ _ _ h h'=>h.mn h') l h 3 3 (by unfold RT;omega)
 ·exact key Go.Proofs.YtkjnafecmjakcaaGreatDoor.mx (λ_ _ _ _ h h'=>h.mx h') l h 1 1 (by unfold RT;omega)
theorem A2w {l:List Int} {f g:Int->Int} (h:∀o∈l,RT (f o) (g o)):RV (Rn l f) (Rn l g):=by
 refine .inr ⟨rfl,rfl,?_⟩;unfold InSp Rn;dsimp only;have key:∀l:List Int,(∀o∈l,RT (f o) (g o))->l.countP (λo=>f o==1)<=l.countP (λo=>g o==1)/\l.countP (λo=>g o==1)<=l.countP (λo=>g o != 3)/\l.countP (λo=>g o != 3)<=l.countP (λo=>f o != 3):=by
  intro l
  induction l with
  | nil=>simp
  | cons o l ih =>
   intro hl;have i:=ih λp hp=>hl p (by simp [hp]);obtain ⟨c1,c2,c3⟩:=hl o (by simp);simp only [List.countP_cons];have e1:(f o==1)=true->(g o==1)=true:=by rw [beq_iff_eq,beq_iff_eq];omega
   have e2:(g o==1)=true->(g o != 3)=true:=by rw [beq_iff_eq,bne_iff_ne];omega
   have e3:(g o != 3)=true->(f o != 3)=true:=by rw [bne_iff_ne,bne_iff_ne];omega
   cases a:(f o==1)<;>cases b:(g o==1)<;>cases c:(g o != 3)<;>cases d:(f o != 3)<;>simp_all<;>omega
 have:=key l h;omega
structure RE (e e':zJ):Prop where
 kind:e'.Kind=e.Kind
 power:InSp e.Power e'.Power
 ratio:InSp e.Ratio e'.Ratio
 mat:InSp e.Match e'.Match
 turn:InSp e.Turn e'.Turn
 step:InSp e.Steps.1 e'.Steps.1
 spread:e'.Spread=e.Spread
structure RS (s s':zG) (R m:Nat):Prop where
 sw:Swp s R m
 sw':Swp s' R m
 tilt:s'.Tilt=s.Tilt
 echo:∀k:Int,0<=k->k<(R*m:Nat)->RE (rowS s k) (rowS s' k)
theorem A03 {x:Int}:RV (pt x) (pt x):=.inr ⟨rfl,rfl,by unfold InSp pt;dsimp only;omega⟩
theorem A1i {x y:zC} (h:InSp x y):RV ⟨x,true⟩ ⟨y,true⟩:=.inr ⟨rfl,rfl,h⟩
theorem Pz {c:Prop} [Decidable c] {a b a' b':zD} (h1:c->RV a a') (h2:¬c->RV b b'):RV (if c then a else b) (if c then a' else b'):=by
 by_cases h:c
 ·rw [if_pos h,if_pos h];exact h1 h
 ·rw [if_neg h,if_neg h];exact h2 h
theorem A33 {s s':zG} {R m:Nat} (h:RS s s' R m) {op v k:Int} (hk:0<=k/\k<(R*m:Nat)):RV (Qn s op v k) (Qn s' op v k):=by
 have e:=h.echo k hk.1 hk.2;unfold Qn;rw [e.kind,e.spread,h.tilt,h.sw.hm,h.sw'.hm];exact Pz (λ_=>A03) λ_=>Pz (λ_=>A03) λ_=>Pz (λ_=>A03) λ_=>Pz (λ_=>A03) λ_=>Pz (λ_=>A03) λ_=>Pz (λ_=>A1i e.power) λ_=>Pz (λ_=>.inl ⟨rfl,rfl⟩) λ_=>Pz (λ_=>A1i e.ratio) λ_=>Pz (λ_=>A1i e.mat) λ_=>Pz (λ_=>A03) λ_=>Pz (λ_=>.inl ⟨rfl,rfl⟩) λ_=>Pz (λ_=>A1i e.turn) λ_=>A1i e.step
theorem A7f {s s':zG} {R m:Nat} (h:RS s s' R m):∀(t:T) (k:Int),0<=k/\k<(R*m:Nat)->(okT true t->RT (t.sem s k).1 (t.sem s' k).1)/\(okT false t->RV (t.sem s k).2 (t.sem s' k).2):=by
 have h4:=h.sw.R4;have h1:=h.sw.m1;have hn:∀{k r g o:Int},o∈nbs s.Rays.length s.Site.Gates k r g->0<=o/\o<(R*m:Nat):=by
  intro k r g o ho;rw [h.sw.hR,h.sw.hm] at ho;have:=A8e (R:=(R:Int)) (m:=(m:Int)) (by omega) (by omega) ho;rw [Int.natCast_mul];exact this
 have hsame:∀k r g,nbs s'.Rays.length s'.Site.Gates k r g=nbs s.Rays.length s.Site.Gates k r g:=by
  intro k r g;rw [h.sw.hR,h.sw.hm,h.sw'.hR,h.sw'.hm]
 intro t
 induction t with
 | leaf op v =>
  intro k hk;refine ⟨λho=>?_,λ_=>A33 h hk⟩;show RT (if op=1 then 1 else 3) (if op=1 then 1 else 3);unfold RT;split<;>omega
 | un op r g a ih =>
  intro k hk;simp only [T.sem];rw [hsame];refine ⟨λho=>?_,λho=>?_⟩
  ·simp only [okT] at ho
   by_cases h3:op=3
   ·rw [if_pos h3,if_pos h3];have:=(ih k hk).1 ho.2;unfold RT at *;omega
   ·rw [if_neg h3,if_neg h3];exact A5h λo hm=>(ih o (hn hm)).1 ho.2
  ·simp only [okT] at ho;exact A2w λo hm=>(ih o (hn hm)).1 ho.2
 | bin op a b iha ihb =>
  intro k hk;simp only [T.sem];refine ⟨λho=>?_,λho=>?_⟩
  ·simp only [okT] at ho;rcases ho with ho|ho
   ·have i:=(iha k hk).1 ho.2.1;have j:=(ihb k hk).1 ho.2.2
    by_cases h4:op=4
    ·rw [if_pos h4,if_pos h4];exact i.mx j
    ·rw [if_neg h4,if_neg h4,if_pos (by omega),if_pos (by omega)];exact i.mn j
   ·rw [if_neg (by omega),if_neg (by omega),if_neg (by omega),if_neg (by omega)];exact A4u ((iha k hk).2 ho.2.2.1) ((ihb k hk).2 ho.2.2.2)
  ·simp only [okT] at ho;exact A5r ((iha k hk).2 ho.2.1) ((ihb k hk).2 ho.2.2.1)
theorem A49 (s:zG) (N:Nat):Inv s N ⟨s,N,[],[]⟩:=⟨rfl,rfl,(λt l _ h=>by cases h),(λt l _ h=>by cases h)⟩
section
variable {s:zG} {R m:Nat} {t:T} {F:Nat} {a i:Int}
theorem A45 (ha:0<=a/\a<R) (hi:0<=i/\i<m):0<=a*m+i/\a*m+i<(R*m:Nat):=by
 have:=Vl ha.1 ha.2 hi.1 hi.2;rw [Int.natCast_mul];exact this
theorem A7u (h:Swp s R m) (hc:C5 F s=some 0) (ht:okT true t) (h1:t.size<=300) (h2:t.depth<=12) (hF:4000<=F) (ha:0<=a/\a<R) (hi:0<=i/\i<m) :
  Mb F t.node s a i=some ((t.sem s (a*m+i)).1,0):=by
 have hN:=h.N1;have hR:=h.R4;have hm:=h.m1;have hg:=A45 ha hi;have hk:=ht.kind.1;have ham:0<=a*m:=Int.mul_nonneg ha.1 (by omega);obtain ⟨d',q1,-⟩:=(A4f h t F ⟨s,(R*m:Nat),[],[]⟩ (by omega) (by omega) (A49 s _)).1 ht;unfold Mb C7 Gr;rw [Yx t F 300 (by omega) (by omega) (by omega),sbd,An (dF (by omega)),A3x t F (by have:=t.depth_le;omega) (by omega),sbd,An (dF (by omega)),hk,gdT (g:=(!true)==false&&true) rfl,Xw t true F ht (by omega),sbd,An (c:=bif !true then true else !true) rfl,hc,sbd,An (neF rfl),h.hR,h.hm,
  An (A14 (A14 (dF (by split<;>omega)) (dF (by omega))) (dF (by omega))),ckb (by rw [←Int.natCast_mul];omega),sbd,sbd]
 unfold exc;dsimp only;rw [An (neF rfl),ckb (by omega),ckb (by omega)];rw [show ((R:Int)*(m:Int))=((R*m:Nat):Int) from (Int.natCast_mul ..).symm];show (F8 F ⟨s,(R*m:Nat),[],[]⟩ t.node).bind _=_;rw [q1,sbd,Tm hg]
theorem A5y (h:Swp s R m) (hc:C5 F s=some 0) (ht:okT false t) (h1:t.size<=300) (h2:t.depth<=12) (hF:4000<=F) (ha:0<=a/\a<R) (hi:0<=i/\i<m) :
  Ls F t.node s a i=some ((t.sem s (a*m+i)).2.span,(t.sem s (a*m+i)).2.has,0):=by
 have hN:=h.N1;have hR:=h.R4;have hm:=h.m1;have hg:=A45 ha hi;have hk:sift_isValue t.node=true:=ht.kind.2;have ham:0<=a*m:=Int.mul_nonneg ha.1 (by omega);obtain ⟨d',q1,-⟩:=(A4f h t F ⟨s,(R*m:Nat),[],[]⟩ (by omega) (by omega) (A49 s _)).2 ht;unfold Ls C8 Gr;rw [Yx t F 300 (by omega) (by omega) (by omega),sbd,An (dF (by omega)),A3x t F (by have:=t.depth_le;omega) (by omega),sbd,An (dF (by omega)),hk,gdT (g:=(!true)==false&&true) rfl,Xw t false F ht (by omega),sbd,An (c:=bif !true then true else !true) rfl,hc,sbd,An (neF rfl),h.hR,h.hm,
  An (A14 (A14 (dF (by split<;>omega)) (dF (by omega))) (dF (by omega))),ckb (by rw [←Int.natCast_mul];omega),sbd,sbd]
 unfold exc;dsimp only;rw [An (neF rfl),ckb (by omega),ckb (by omega)];rw [show ((R:Int)*(m:Int))=((R*m:Nat):Int) from (Int.natCast_mul ..).symm];show (Fj F ⟨s,(R*m:Nat),[],[]⟩ t.node).bind _=_;rw [q1,sbd,Tm hg]
end
theorem Vq {q j m:Int} (h0:0<=j) (h1:j<m):(q*m+j)/m=q:=by
 rw [Int.mul_comm,Int.add_comm,Int.add_mul_ediv_left _ _ (by omega),Int.ediv_eq_zero_of_lt h0 h1];omega
theorem Vr {q j m:Int} (h0:0<=j) (h1:j<m):(q*m+j)%m=j:=by
 rw [Int.mul_comm,Int.add_comm,Int.add_mul_emod_self_left,Int.emod_eq_of_lt h0 h1]
theorem A9d (o m:Int):o/m*m+o%m=o:=Int.ediv_mul_add_emod o m
theorem Uz {R m k g b o:Int} (hR:1<=R) (hm:1<=m) (hg:0<=g):o∈nb1 R m k g b↔o≠k/\o/m=(b+R)%R/\0<=o%m/\o%m<m/\k%m-g<=o%m/\o%m<=k%m+g:=by
 have hkm:0<=k%m/\k%m<m:=⟨Int.emod_nonneg _ (by omega),Int.emod_lt_of_pos _ (by omega)⟩;unfold nb1;rw [List.mem_filter,bne_iff_ne,List.mem_map];constructor
 ·rintro ⟨⟨j,h1,rfl⟩,h2⟩;have h3:=Rg.1 h1;have a:0<=j:=by have:=h3.1;split at this<;>omega
  have c:j<m:=by have:=h3.2;split at this<;>omega
  rw [Vq a c,Vr a c];refine ⟨h2,rfl,a,c,?_,?_⟩
  ·have:=h3.1;split at this<;>omega
  ·have:=h3.2;split at this<;>omega
 ·rintro ⟨h1,h2,h3,h4,h5,h6⟩;refine ⟨⟨o%m,Rg.2 ⟨?_,?_⟩,?_⟩,h1⟩
  ·split<;>omega
  ·split<;>omega
  ·rw [←h2];exact A9d o m
theorem Y8 {R m k r g o:Int} (hR:1<=R) (hm:1<=m) (hk:0<=k/\k<R*m) (hr:0<=r) (hg:0<=g) :
  o∈nbs R m k r g↔o≠k/\0<=o/\o<R*m/\k%m-g<=o%m/\o%m<=k%m+g/\∃d,-r<=d/\d<=r/\(k/m+d)%R=o/m:=by
 have ha:0<=k/m/\k/m<R:=⟨Int.ediv_nonneg hk.1 (by omega),Int.ediv_lt_of_lt_mul (by omega) hk.2⟩;have hom:0<=o%m/\o%m<m:=⟨Int.emod_nonneg _ (by omega),Int.emod_lt_of_pos _ (by omega)⟩;have hin:∀b,o/m=(b+R)%R->0<=o/\o<R*m:=by
  intro b h;have h1:=A9d o m;rw [←h1,h];exact Vl (Int.emod_nonneg _ (by omega)) (Int.emod_lt_of_pos _ (by omega)) hom.1 hom.2
 have hmod:∀x:Int,(x+R)%R=x%R:=λx=>Int.add_emod_right ..;unfold nbs;rw [List.mem_flatMap]
 by_cases c:k/m+r-(k/m-r)>=R
 ·rw [if_pos c];constructor
  ·rintro ⟨b,h1,h2⟩;obtain ⟨n1,n2,n3,n4,n5,n6⟩:=(Uz hR hm hg).1 h2;obtain ⟨z1,z2⟩:=hin b n2;refine ⟨n1,z1,z2,n5,n6,(o/m-k/m+r)%R-r,?_,?_,?_⟩
   ·have:=Int.emod_nonneg (o/m-k/m+r) (show R≠0 by omega);omega
   ·have:=Int.emod_lt_of_pos (o/m-k/m+r) (show 0<R by omega);omega
   ·rw [show k/m+((o/m-k/m+r)%R-r)=(o/m-k/m+r)%R+(k/m-r) by omega,Int.emod_add_emod,show o/m-k/m+r+(k/m-r)=o/m by omega];rw [n2,Int.emod_emod_of_dvd _ (Int.dvd_refl R)]
  ·rintro ⟨n1,z1,z2,n5,n6,d,d1,d2,d3⟩;have hb:0<=o/m/\o/m<R:=⟨Int.ediv_nonneg z1 (by omega),Int.ediv_lt_of_lt_mul (by omega) z2⟩;exact ⟨o/m,Rg.2 ⟨hb.1,by omega⟩,(Uz hR hm hg).2 ⟨n1,by rw [hmod,Int.emod_eq_of_lt hb.1 hb.2],hom.1,hom.2,n5,n6⟩⟩
 ·rw [if_neg c];constructor
  ·rintro ⟨b,h1,h2⟩;obtain ⟨n1,n2,n3,n4,n5,n6⟩:=(Uz hR hm hg).1 h2;obtain ⟨z1,z2⟩:=hin b n2;have hb:=Rg.1 h1;exact ⟨n1,z1,z2,n5,n6,b-k/m,by omega,by omega,by rw [show k/m+(b-k/m)=b by omega,n2,hmod]⟩
  ·rintro ⟨n1,z1,z2,n5,n6,d,d1,d2,d3⟩;exact ⟨k/m+d,Rg.2 ⟨by omega,by omega⟩,(Uz hR hm hg).2 ⟨n1,by rw [hmod,d3],hom.1,hom.2,n5,n6⟩⟩
def Nr (R m k o:Int) (x:Int×Int):Prop:=k%m-x.2<=o%m/\o%m<=k%m+x.2/\∃d,-x.1<=d/\d<=x.1/\(k/m+d)%R=o/m
theorem Nr.trans {R m k o p:Int} {x y:Int×Int} (h:Nr R m k o x) (h':Nr R m o p y):Nr R m k p (y.1+x.1,y.2+x.2):=by
 obtain ⟨a1,a2,d,d1,d2,d3⟩:=h;obtain ⟨b1,b2,e,e1,e2,e3⟩:=h';refine ⟨by dsimp only;omega,by dsimp only;omega,d+e,by dsimp only;omega,by dsimp only;omega,?_⟩;rw [←d3,Int.emod_add_emod] at e3;rw [←e3];congr 1;omega
theorem Nr.mono {R m k o:Int} {x y:Int×Int} (h:Nr R m k o x) (h1:x.1<=y.1) (h2:x.2<=y.2):Nr R m k o y:=by
 obtain ⟨a1,a2,d,d1,d2,d3⟩:=h;exact ⟨by omega,by omega,d,by omega,by omega,d3⟩
theorem A0g (lo hi:Int):(irg lo hi).Nodup:=by
 unfold irg;rw [List.nodup_iff_pairwise_ne,List.pairwise_map];exact (List.nodup_iff_pairwise_ne.1 List.nodup_range).imp λh=>by omega
theorem A5f {R m k r g:Int} (hR:1<=R) (hm:1<=m) (hg:0<=g):(nbs R m k r g).Nodup:=by
 unfold nbs;rw [List.nodup_iff_pairwise_ne,List.pairwise_flatMap];constructor
 ·intro b _;unfold nb1;refine List.Pairwise.filter _ ?_;rw [List.pairwise_map];exact (List.nodup_iff_pairwise_ne.1 (A0g _ _)).imp λh=>by omega
 ·have key:∀(lo hi:Int),hi-lo<R->(irg lo hi).Pairwise λa b=>∀x∈nb1 R m k g a,∀y∈nb1 R m k g b,x≠y:=by
   intro lo hi hlh;refine List.Pairwise.imp_of_mem ?_ (List.nodup_iff_pairwise_ne.1 (A0g lo hi));intro a b ha hb hab x hx y hy e;have ha:=Rg.1 ha;have hb:=Rg.1 hb;have x2:=((Uz hR hm hg).1 hx).2.1;have y2:=((Uz hR hm hg).1 hy).2.1;rw [e,y2] at x2;rw [Int.add_emod_right,Int.add_emod_right] at x2;have d:=Int.emod_emod_of_dvd (b-a) (Int.dvd_refl R);have z:(b-a)%R=0:=by rw [Int.sub_emod,x2,Int.sub_self];rfl
   have z2:=Int.dvd_of_emod_eq_zero z;obtain ⟨c,hc⟩:=z2;have hc0:c=0:=by
    by_cases c1:1<=c
    ·have:=Int.mul_le_mul_of_nonneg_left c1 (show 0<=R by omega);omega
    ·by_cases c2:c<=-1
     ·have:=Int.mul_le_mul_of_nonneg_left c2 (show 0<=R by omega);omega
     ·omega
   rw [hc0] at hc;omega
  split
  ·exact key _ _ (by omega)
  ·exact key _ _ (by omega)
section
variable {L:List (ByteArray×T)} (h:GoodR L) {F:Nat} (hF:2000<=F)
include h hF
end
section
variable {self_:zE->Bool->Option zE} {p u v:zE} {b:Bool} {x:Int} {F:Nat}
end
section
variable {self_:zA->zE->Option Bool} {p u:zA} {q v:zE} {F i:Nat}
end
theorem A10 {α β:Type} {l:List α} {i:Int} {f:α->Option β} (d:α) (h:0<=i/\i<l.length):(getI l i).bind f=f (l.getD i.toNat d):=by
 unfold getI;rw [if_pos h.1,List.getElem?_eq_getElem (by omega),List.getD_eq_getElem?_getD,List.getElem?_eq_getElem (by omega)];rfl
def Py (s:zC):Bool:=decide (-32768<=s.Lo/\s.Lo<=32767/\s.Lo<=s.Hi/\s.Hi<=s.Lo+65535)
theorem A5l (F:Nat) (s:zC):Ln F s=some (Py s):=by
 unfold Ln Ai Py
 by_cases h:-32768<=s.Lo/\s.Lo<=32767
 ·have e:(bif decide (s.Lo>=-32768) then decide (s.Lo<=32767) else false)=true:=by simp [h.1,h.2]
  rw [e,gdT (g:=true==true&&true) rfl,ckb (by omega),gdT (g:=true==true&&true) rfl,ckb (by omega)];simp [cond_eq_ite]
  grind
 ·have e:(bif decide (s.Lo>=-32768) then decide (s.Lo<=32767) else false)=false:=by simp [cond_eq_ite];omega
  rw [e,gdF (g:=false==true&&true) rfl,sbd,gdF (g:=false==true&&true) rfl,sbd];simp
  grind
theorem Tn (p:List zC) (k:Int->Option Bool) (i:Nat) (s:zC) (h:p[i]? = some s) (hi:i<1000):Ee p k (i:Int)=if Py s then k ((i:Int)+1) else some false:=by
 have hl:=(List.getElem?_eq_some_iff.1 h).1;unfold Ee;rw [Az (by simpa using hl),A10 s (by omega)];simp only [List.getD_eq_getElem?_getD,Int.toNat_natCast,h,Option.getD_some];unfold Py B3
 by_cases hw:-32768<=s.Lo/\s.Lo<=32767
 ·have e:(bif decide (-32768<=s.Lo) then decide (s.Lo<=32767) else false)=true:=by simp [hw.1,hw.2]
  rw [e,gdT (g:=(!true)==false&&true) rfl,ckb (by omega),gdT (g:=(!true)==false&&true) rfl,ckb (by omega),ckb (by omega)];have e2:s.Lo+65536-1=s.Lo+65535:=by omega
  rw [e2]
  by_cases h2:s.Lo<=s.Hi/\s.Hi<=s.Lo+65535
  ·rw [if_pos (by simp [hw,h2])];simp [h2]
  ·rw [if_neg (by simp;intro _ _ h3;omega)];have:(bif decide (s.Lo<=s.Hi) then decide (s.Hi<=s.Lo+65535) else false)=false:=by simp [cond_eq_ite];omega
   rw [this];rfl
 ·have e:(bif decide (-32768<=s.Lo) then decide (s.Lo<=32767) else false)=false:=by simp [cond_eq_ite];omega
  rw [e,gdF (g:=(!false)==false&&true) rfl,sbd,gdF (g:=(!false)==false&&true) rfl,sbd,if_neg (by simp;intro h1 h2;omega)];rfl
theorem Xo (F:Nat) (hF:4<=F) (a b c:zC):Pa F [a,b,c]=some (Py a&&Py b&&Py c):=by
 obtain ⟨n,rfl⟩:∃n,F=n+4:=⟨F-4,by omega⟩;show Ee [a,b,c] (Fk [a,b,c] (n+3)) ((0:Nat):Int)=_;rw [Tn _ _ 0 a rfl (by omega)]
 cases ha:Py a
 ·rfl
 ·show Ee [a,b,c] (Fk [a,b,c] (n+2)) ((1:Nat):Int)=_;rw [Tn _ _ 1 b rfl (by omega)]
  cases hb:Py b
  ·rfl
  ·show Ee [a,b,c] (Fk [a,b,c] (n+1)) ((2:Nat):Int)=_;rw [Tn _ _ 2 c rfl (by omega)]
   cases hc:Py c
   ·rfl
   ·rfl
def inB (s:zC) (lo hi:Int):Bool:=decide (lo<=s.Lo/\s.Lo<=s.Hi/\s.Hi<=hi)
def noB (s:zC):Bool:=decide (s.Lo=0/\s.Hi=0)
def Xn (x:zJ):Bool :=
 inB x.Power 0 1073741824&&(if x.Kind=1 then decide (x.Power.Lo=0)&&noB x.Steps.1&&noB x.Steps.2&&decide (x.Spread=0)&&noB x.Ratio&&noB x.Match&&noB x.Turn
  else decide (1<=x.Power.Lo)&&inB x.Ratio 0 1000000&&inB x.Match 0 1000&&decide (0<=x.Spread/\x.Spread<=65535) &&
   (if x.Kind=2 then noB x.Steps.1&&noB x.Steps.2&&noB x.Turn else Py x.Steps.1&&Py x.Steps.2&&Py x.Turn))
def Rc (x:zJ):Int:=if x.Kind≠1/\x.Kind≠2/\x.Kind≠3 then 2 else if Xn x=true then 0 else 3
theorem A57 (s:zC) (lo hi:Int):Aw s lo hi=inB s lo hi:=by
 unfold Aw inB;rw [Bool.eq_iff_iff];simp [cond_eq_ite];omega
theorem A7r (s:zC) (lo hi:Int):Ef s lo hi=inB s lo hi:=by
 unfold Ef inB;rw [Bool.eq_iff_iff];simp [cond_eq_ite];omega
theorem A9j (s:zC):(((s.Lo:Int)==0)&&(((s.Hi:Int)==0)&&true))=noB s:=by
 unfold noB;rw [Bool.eq_iff_iff];simp
theorem A2f (s:zC):zC.mk s.Lo s.Hi=s:=rfl
theorem A1p (p1:zJ):(zJ.mk p1.Kind p1.Power ((zC.mk p1.Steps.1.Lo p1.Steps.1.Hi),(zC.mk p1.Steps.2.Lo p1.Steps.2.Hi)) p1.Spread p1.Ratio p1.Match p1.Turn)=p1:=rfl
theorem A3f (F:Nat) (hF:4<=F) (x:zJ):Kp F x=some (Rc x):=by
 unfold Kp Di Hj Di Rc Xn B3;simp only [A2f,A57,A9j,Xo F hF,Option.bind_some]
 by_cases h1:x.Kind=1
 ·simp [h1,cond_eq_ite];grind
 ·by_cases h2:x.Kind=2
  ·simp [h2,cond_eq_ite];grind
  ·by_cases h3:x.Kind=3
   ·simp [h3,cond_eq_ite];grind
   ·simp [h1,h2,h3,cond_eq_ite]
theorem A77 (F:Nat) (x:zJ):Ks F x=some (Rc x):=by
 unfold Ks Rc Xn Ai;simp only [A2f,A7r,A9j,A5l,Option.bind_some]
 by_cases h1:x.Kind=1
 ·simp [h1,cond_eq_ite];grind
 ·by_cases h2:x.Kind=2
  ·simp [h2,cond_eq_ite];grind
  ·by_cases h3:x.Kind=3
   ·simp [h3,cond_eq_ite];unfold gd
    cases Py x.Steps.1<;>cases Py x.Steps.2<;>cases Py x.Turn<;>simp<;>grind
   ·simp [h1,h2,h3,cond_eq_ite]
theorem B0v (x lo hi:Int):Ai x lo hi=As x lo hi:=rfl
theorem A7h {F:Nat} (hF:100<=F) (s:zM):Kr F s=Cs F s:=by
 rw [Kr,Cs,A6t hF,Yp,sbd,sbd];simp only [B0v,D5,Cp]
 cases Y9 s.Name<;>cases As s.X (-1048576) 1048576<;>cases As s.Y (-1048576) 1048576<;>cases As s.Z 0 20000<;>cases As s.Rose 1 90<;>cases As s.Gates 1 200<;>cases As s.Step 50 2000<;>cases As s.Width 0 8<;>rfl
def Xt:List zJ->Int
 | []=>0
 | x::l=>if Rc x=0 then Xt l else Rc x
def X1:List (List zJ)->Int
 | []=>0
 | u::l=>if Xt u=0 then X1 l else Xt u
def Y7 (g:Int) (X:List (List zJ)):List (List zJ)->Int
 | []=>X1 X
 | u::l=>if (u.length:Int)=g then Y7 g X l else 11
theorem Ur {α:Type} {l:List α} {i:Nat} (h:i<l.length) (d:α):l.drop i=l.getD i d::l.drop (i+1):=by
 rw [List.drop_eq_getElem_cons h,List.getD_eq_getElem?_getD,List.getElem?_eq_getElem h];rfl
theorem B1h (F:Nat) (hF:4<=F) (u:List zJ) (hu:u.length<=1000) (x:Int) (k3:Int->Option Int) (hx:0<=x/\x<=1000):∀(q N i:Nat),i+q=u.length->q<N ->
  Dr F x k3 u N (i:Int)=if Xt (u.drop i)=0 then k3 (x+1) else some (Xt (u.drop i)):=by
 intro q
 induction q with
 | zero =>
  intro N i hi hN;obtain ⟨N,rfl⟩:∃N',N=N'+1:=⟨N-1,by omega⟩;show Dp F x k3 u (Dr F x k3 u N) (i:Int)=_;unfold Dp Jb;rw [An (dF (by omega)),List.drop_eq_nil_of_le (by omega),ckb (by omega)];rfl
 | succ q ih =>
  intro N i hi hN;obtain ⟨N,rfl⟩:∃N',N=N'+1:=⟨N-1,by omega⟩;show Dp F x k3 u (Dr F x k3 u N) (i:Int)=_;unfold Dp;have:=ih N (i+1) (by omega) (by omega);rw [Int.natCast_add] at this;rw [Az (dT (by omega)),A10 default (by omega),Int.toNat_natCast,A1p,A3f F hF,sbd,Ur (i:=i) (by omega) default];unfold Xt
  by_cases h:Rc (u.getD i default)=0
  ·rw [An (by rw [h];rfl),ckb (by omega),if_pos h];exact this
  ·rw [Az (by simpa only [bne_iff_ne,ne_eq] using h),if_neg h,if_neg h]
theorem B0j (F:Nat) (hF:2000<=F) (s:zG) (hX:s.Rays.length<=1000) (hx:∀r∈s.Rays,r.length<=1000):∀(q N i:Nat),i+q=s.Rays.length->q<N ->
  D2 F s N (i:Int)=some (X1 (s.Rays.drop i)):=by
 intro q
 induction q with
 | zero =>
  intro N i hi hN;obtain ⟨N,rfl⟩:∃N',N=N'+1:=⟨N-1,by omega⟩;show Do F s (D2 F s N) (i:Int)=_;unfold Do;rw [An (dF (by omega)),List.drop_eq_nil_of_le (by omega)];rfl
 | succ q ih =>
  intro N i hi hN;obtain ⟨N,rfl⟩:∃N',N=N'+1:=⟨N-1,by omega⟩;show Do F s (D2 F s N) (i:Int)=_;unfold Do;have hm:s.Rays.getD i []∈s.Rays:=by rw [List.getD_eq_getElem?_getD,List.getElem?_eq_getElem (by omega:i<s.Rays.length)];exact List.getElem_mem _
  have hlen:=hx _ hm;rw [Az (dT (by omega)),A10 [] (by omega),Int.toNat_natCast];refine Eq.trans (B1h F (by omega) (s.Rays.getD i []) hlen (i:Int) (D2 F s N) (by omega) (s.Rays.getD i []).length F 0 (by omega) (by omega)) ?_;rw [List.drop_zero,Ur (i:=i) (l:=s.Rays) (by omega) []];have:=ih N (i+1) (by omega) (by omega);rw [Int.natCast_add] at this;unfold X1
  by_cases h:Xt (s.Rays.getD i [])=0
  ·rw [if_pos h,if_pos h];exact this
  ·rw [if_neg h,if_neg h]
theorem B1j (F:Nat) (hF:4<=F) (s:zG) {a:Nat} (ha:a<s.Rays.length) (hX:s.Rays.length<=1000) (hu:(s.Rays.getD a []).length<=1000) (k3:Int->Option Int):∀(q N i:Nat),i+q=(s.Rays.getD a []).length->q<N ->
  Dx F s (a:Int) k3 N (i:Int)=if Xt ((s.Rays.getD a []).drop i)=0 then k3 ((a:Int)+1) else some (Xt ((s.Rays.getD a []).drop i)):=by
 intro q
 induction q with
 | zero =>
  intro N i hi hN;obtain ⟨N,rfl⟩:∃N',N=N'+1:=⟨N-1,by omega⟩;show Dv F s (a:Int) k3 (Dx F s (a:Int) k3 N) (i:Int)=_;unfold Dv Jd;rw [A10 [] (by omega),Int.toNat_natCast,An (dF (by omega)),List.drop_eq_nil_of_le (by omega),ckb (by omega)];rfl
 | succ q ih =>
  intro N i hi hN;obtain ⟨N,rfl⟩:∃N',N=N'+1:=⟨N-1,by omega⟩;show Dv F s (a:Int) k3 (Dx F s (a:Int) k3 N) (i:Int)=_;unfold Dv;have:=ih N (i+1) (by omega) (by omega);rw [Int.natCast_add] at this;rw [A10 [] (by omega),Int.toNat_natCast,Az (dT (by omega)),A10 [] (by omega),Int.toNat_natCast,A10 default (by omega),Int.toNat_natCast,A1p,A77 F,sbd,Ur (i:=i) (by omega) default];unfold Xt
  by_cases h:Rc ((s.Rays.getD a []).getD i default)=0
  ·rw [An (by rw [h];rfl),ckb (by omega),if_pos h];exact this
  ·rw [Az (by simpa only [bne_iff_ne,ne_eq] using h),if_neg h,if_neg h]
theorem B0m (F:Nat) (hF:2000<=F) (s:zG) (hX:s.Rays.length<=1000) (hx:∀r∈s.Rays,r.length<=1000):∀(q N i:Nat),i+q=s.Rays.length->q<N ->
  D3 F s N (i:Int)=some (X1 (s.Rays.drop i)):=by
 intro q
 induction q with
 | zero =>
  intro N i hi hN;obtain ⟨N,rfl⟩:∃N',N=N'+1:=⟨N-1,by omega⟩;show Du F s (D3 F s N) (i:Int)=_;unfold Du;rw [An (dF (by omega)),List.drop_eq_nil_of_le (by omega)];rfl
 | succ q ih =>
  intro N i hi hN;obtain ⟨N,rfl⟩:∃N',N=N'+1:=⟨N-1,by omega⟩;show Du F s (D3 F s N) (i:Int)=_;unfold Du;have hm:s.Rays.getD i []∈s.Rays:=by rw [List.getD_eq_getElem?_getD,List.getElem?_eq_getElem (by omega:i<s.Rays.length)];exact List.getElem_mem _
  have hlen:=hx _ hm;rw [Az (dT (by omega))];refine Eq.trans (B1j F (by omega) s (a:=i) (by omega) hX hlen (D3 F s N) (s.Rays.getD i []).length F 0 (by omega) (by omega)) ?_;rw [List.drop_zero,Ur (i:=i) (l:=s.Rays) (by omega) []];have:=ih N (i+1) (by omega) (by omega);rw [Int.natCast_add] at this;unfold X1
  by_cases h:Xt (s.Rays.getD i [])=0
  ·rw [if_pos h,if_pos h];exact this
  ·rw [if_neg h,if_neg h]
def Q7 (F:Nat) (s:zG):Option Int :=
 (Cs F s.Site).bind λe=>if e≠0 then some e else if ¬(0<=s.Tilt/\s.Tilt<=256/\0<=s.Time/\s.Time<=4294967296) then some 3 else
  if (s.Rays.length:Int)≠4*s.Site.Rose then some 11 else some (Y7 s.Site.Gates s.Rays s.Rays)
theorem Xu (F:Nat) (s:zM) (h:Cs F s=some 0):1<=s.Rose/\s.Rose<=90:=by
 unfold Cs at h;rw [Yp,sbd] at h;simp only [D5,Cp] at h;have hr:As s.Rose 1 90=true:=by
  cases hb:As s.Rose 1 90 with
  | true=>rfl
  | false =>
   exfalso;rw [hb] at h;revert h
   cases Y9 s.Name<;>cases As s.X (-1048576) 1048576<;>cases As s.Y (-1048576) 1048576<;>cases As s.Z 0 20000<;>simp
 unfold As at hr
 revert hr
 cases h1:decide (1<=s.Rose)<;>simp at h1 ⊢
 omega
theorem Qm (F:Nat) (s:zM):∃e,Cs F s=some e:=by
 unfold Cs;rw [Yp,sbd];simp only [D5,Cp]
 cases Y9 s.Name<;>cases As s.X (-1048576) 1048576<;>cases As s.Y (-1048576) 1048576<;>cases As s.Z 0 20000<;>cases As s.Rose 1 90<;>cases As s.Gates 1 200<;>cases As s.Step 50 2000<;>cases As s.Width 0 8<;>exact ⟨_,rfl⟩
theorem A9o (s:zG) (w:Int->Int->Int->Bool) (hw:∀x lo hi,w x lo hi=decide (lo<=x/\x<=hi)):(bif (!(w s.Tilt 0 256)) then true else (!(w s.Time 0 4294967296)))=decide (¬(0<=s.Tilt/\s.Tilt<=256/\0<=s.Time/\s.Time<=4294967296)):=by
 rw [hw,hw,Bool.eq_iff_iff];simp only [cond_eq_ite,Bool.if_true_left,Bool.or_eq_true,Bool.not_eq_true',decide_eq_false_iff_not,decide_eq_true_eq];omega
theorem A9k (x lo hi:Int):B3 x lo hi=decide (lo<=x/\x<=hi):=by
 unfold B3
 by_cases h:lo<=x<;>simp [h]
theorem A8s:∀{u:List zJ},Xt u=0->∀x∈u,Rc x=0:=by
 intro u
 induction u with
 | nil=>intro _ x hx;cases hx
 | cons y u ih =>
  intro h x hx;unfold Xt at h
  split at h
  ·rename_i h0
   rcases List.mem_cons.1 hx with rfl|hx
   ·exact h0
   ·exact ih h x hx
  ·rename_i h0;exact absurd h h0
theorem A7d:∀{X:List (List zJ)},X1 X=0->∀u∈X,∀x∈u,Rc x=0:=by
 intro X
 induction X with
 | nil=>intro _ u hu;cases hu
 | cons v X ih =>
  intro h u hu;unfold X1 at h
  split at h
  ·rename_i h0
   rcases List.mem_cons.1 hu with rfl|hu
   ·exact A8s h0
   ·exact ih h u hu
  ·rename_i h0;exact absurd h h0
theorem A6s {g:Int} {X:List (List zJ)}:∀{Y:List (List zJ)},Y7 g X Y=0->(∀u∈Y,(u.length:Int)=g)/\X1 X=0:=by
 intro Y
 induction Y with
 | nil=>intro h;exact ⟨λu hu=>(by cases hu),h⟩
 | cons v Y ih =>
  intro h;unfold Y7 at h
  split at h
  ·rename_i h0
   obtain ⟨h1,h2⟩:=ih h;refine ⟨λu hu=>?_,h2⟩;rcases List.mem_cons.1 hu with rfl|hu
   ·exact h0
   ·exact h1 u hu
  ·cases h
theorem A7l {F:Nat} {s:zG} (h:Q7 F s=some 0):(∀u∈s.Rays,(u.length:Int)=s.Site.Gates)/\∀u∈s.Rays,∀x∈u,Rc x=0:=by
 unfold Q7 at h;obtain ⟨e,he⟩:=Qm F s.Site;rw [he,sbd] at h
 split at h
 ·rename_i h0;exact absurd (Option.some.inj h) h0
 ·split at h
  ·cases h
  ·split at h
   ·cases h
   ·have:=A6s (Option.some.inj h);exact ⟨this.1,A7d this.2⟩
theorem A3j {F:Nat} {s:zG}:∃e,Q7 F s=some e:=by
 unfold Q7;obtain ⟨e,he⟩:=Qm F s.Site;rw [he,sbd]
 repeat' split
 all_goals exact ⟨_,rfl⟩
theorem B1t {R x:Int} (hR:4<=R) (hx:-3<=x):(x.tmod R+R)%R=x%R/\-3<=x.tmod R/\x.tmod R<R:=by
 by_cases h:0<=x
 ·rw [Int.tmod_eq_emod_of_nonneg h];have:=Int.emod_nonneg x (show R≠0 by omega);have:=Int.emod_lt_of_pos x (show 0<R by omega);exact ⟨by rw [Int.add_emod_right,Int.emod_emod_of_dvd _ (Int.dvd_refl R)],by omega,by omega⟩
 ·have e:x.tmod R=x:=by
   have h1:(-x).tmod R=-x:=Int.tmod_eq_of_lt (by omega) (by omega);have h2:(-(-x)).tmod R=-((-x).tmod R):=Int.neg_tmod _ _;rw [Int.neg_neg,h1,Int.neg_neg] at h2;exact h2
  rw [e];exact ⟨Int.add_emod_right _ _,hx,by omega⟩
theorem B0t {β:Type} {x R:Int} (hR:4<=R) {f:Int->Option β}:(Ug x R).bind f=f (x.tmod R):=by
 unfold Ug;rw [if_neg (by omega)];rfl
theorem A7a {R m:Nat} (hR:4<=R/\R<=1000) (hm:1<=m/\m<=1000) {a i b j r g:Int} (ha:0<=a/\a<R) (hi:0<=i/\i<m) (hb:0<=b/\b<R) (hj:0<=j/\j<m) (hr:0<=r/\r<=3) (hg:0<=g/\g<=3) {F:Nat} (hF:20<=F) :
  Qy F R a i b j r g=some (decide (b*m+j∈nbs R m (a*m+i) r g)):=by
 have go:∀(n:Nat) (d:Int),(r+1-d).toNat+1<=n->-r<=d->d<=r+1->∃c,Mp R a b r n d=some c/\(c=true↔∃e,d<=e/\e<=r/\(a+e)%(R:Int)=b):=by
  intro n
  induction n with
  | zero=>intro d h;omega
  | succ n ih =>
   intro d h1 h2 h3;show ∃c,Mo R a b r _ d=_/\_;unfold Mo Pe
   by_cases hd:d<=r
   ·obtain ⟨t1,t2,t3⟩:=B1t (R:=(R:Int)) (x:=a+d) (by omega) (by omega);rw [Az (dT hd),ckb (by omega),B0t (by omega),ckb (by omega),A78 (by omega) (by omega),t1]
    by_cases e:(a+d)%(R:Int)=b
    ·rw [Az (eqT e)];exact ⟨true,rfl,λ_=>⟨d,by omega,hd,e⟩,λ_=>rfl⟩
    ·rw [An (eqF e),ckb (by omega)];obtain ⟨c,c1,c2⟩:=ih (d+1) (by omega) (by omega) (by omega);refine ⟨c,c1,c2.trans ⟨?_,?_⟩⟩
     ·rintro ⟨x,x1,x2,x3⟩;exact ⟨x,by omega,x2,x3⟩
     ·rintro ⟨x,x1,x2,x3⟩;refine ⟨x,?_,x2,x3⟩
      by_cases ex:x=d
      ·subst ex;exact absurd x3 e
      ·omega
   ·rw [An (dF hd)];exact ⟨false,rfl,λh=>(by cases h),λ⟨x,x1,x2,_⟩=>by omega⟩
 have hk:=Vl ha.1 ha.2 hi.1 hi.2;have ho:=Vl hb.1 hb.2 hj.1 hj.2;have hmem:=Y8 (R:=(R:Int)) (m:=(m:Int)) (k:=a*m+i) (r:=r) (g:=g) (o:=b*m+j) (by omega) (by omega) hk hr.1 hg.1;rw [Vq hi.1 hi.2,Vr hi.1 hi.2,Vq hj.1 hj.2,Vr hj.1 hj.2] at hmem;have hne:b*m+j≠a*m+i↔¬(a=b/\i=j):=by
  constructor
  ·rintro h ⟨rfl,rfl⟩;exact h rfl
  ·intro h e;have h1:=congrArg (· / (m:Int)) e;have h2:=congrArg (·%(m:Int)) e;rw [Vq hi.1 hi.2,Vq hj.1 hj.2] at h1;rw [Vr hi.1 hi.2,Vr hj.1 hj.2] at h2;exact h ⟨h1.symm,h2.symm⟩
 unfold Qy
 by_cases hs:a=b/\i=j
 ·rw [Az (eqT hs.1),eqT hs.2,gdF (g:=true==false&&true) rfl,sbd,gdF (g:=(bif true then true else decide (j>0))==false&&true) rfl,sbd,Az (c:=bif (bif true then true else decide (j>0)) then true else decide (j<0)) rfl];rw [dF λh=>hne.1 (hmem.1 h).1 hs]
 ·have hb0:(bif (a==b) then (i==j) else false)=false:=by
   by_cases e:a=b
   ·rw [eqT e,Az rfl];exact eqF λe2=>hs ⟨e,e2⟩
   ·rw [eqF e];rfl
  rw [hb0,gdT (g:=false==false&&true) rfl,ckb (by omega)]
  by_cases h1:j>i+g
  ·rw [dT h1,gdF (g:=(bif false then true else true)==false&&true) rfl,sbd,Az (c:=bif (bif false then true else true) then true else decide (j<0)) rfl,dF λh=>by have:=(hmem.1 h);omega]
  ·rw [dF h1,gdT (g:=(bif false then true else false)==false&&true) rfl,ckb (by omega)]
   by_cases h2:j<i-g
   ·rw [dT h2,Az (c:=bif (bif false then true else false) then true else true) rfl,dF λh=>by have:=(hmem.1 h);omega]
   ·rw [dF h2,An (c:=bif (bif false then true else false) then true else false) rfl,show IntKind.i64.wrap (0-r)=-r from Zo (by omega)];obtain ⟨c,c1,c2⟩:=go F (-r) (by omega) (by omega) (by omega);rw [c1]
    congr 1
    rw [Bool.eq_iff_iff,c2,decide_eq_true_iff];constructor
    ·rintro ⟨e,e1,e2,e3⟩;exact hmem.2 ⟨hne.2 hs,ho.1,ho.2,by omega,by omega,e,e1,e2,e3⟩
    ·intro h;obtain ⟨-,-,-,-,-,e,e1,e2,e3⟩:=hmem.1 h;exact ⟨e,e1,e2,e3⟩
def Nv {α:Type} (R m:Nat) (f:Int->α):List (List α):=(List.range R).map λa=>(List.range m).map λi=>f ((a*m+i:Nat):Int)
theorem A1u {α:Type} (R m:Nat) (f:Int->α):(Nv R m f).length=R:=by simp [Nv]
theorem U1 {α:Type} {R m:Nat} {f:Int->α} {a:Nat} (h:a<R):(Nv R m f)[a]? = some ((List.range m).map λi=>f ((a*m+i:Nat):Int)):=by simp [Nv,h]
theorem A19 {α:Type} {m:Nat} {f:Int->α} {a i:Nat} (h:i<m):((List.range m).map λi=>f ((a*m+i:Nat):Int))[i]? = some (f ((a*m+i:Nat):Int)):=by simp [h]
def cP (N:List Int) (q:Int->Bool) (n:Nat):Nat:=(List.range n).countP λo:Nat=>q (o:Int)&&decide ((o:Int)∈N)
theorem A0t (N:List Int) (q:Int->Bool) (n:Nat):cP N q (n+1)=cP N q n+if (q (n:Int)&&decide ((n:Int)∈N))=true then 1 else 0:=by
 unfold cP;rw [List.range_succ,List.countP_append,List.countP_cons,List.countP_nil,Nat.zero_add]
theorem A65 (N:List Int) (q:Int->Bool) (n:Nat):cP N q n<=n:=by
 have:=List.countP_le_length (p:=λo:Nat=>q (o:Int)&&decide ((o:Int)∈N)) (l:=List.range n);rw [List.length_range] at this;exact this
theorem A2u {N:List Int} {q:Int->Bool} {n:Nat} (hn:N.Nodup) (hN:∀o∈N,0<=o/\o<(n:Int)):cP N q n=N.countP q:=by
 have hp:(((List.range n).map λo:Nat=>(o:Int)).filter λo=>decide (o∈N)).Perm N:=by
  refine (List.perm_ext_iff_of_nodup ?_ hn).2 λo=>?_
  ·rw [List.nodup_iff_pairwise_ne];refine List.Pairwise.filter _ ?_;rw [List.pairwise_map];exact (List.nodup_iff_pairwise_ne.1 List.nodup_range).imp λh=>by omega
  ·rw [List.mem_filter,List.mem_map,decide_eq_true_iff];constructor
   ·exact λh=>h.2
   ·intro h;obtain ⟨h1,h2⟩:=hN o h;exact ⟨⟨o.toNat,List.mem_range.2 (by omega),by omega⟩,h⟩
 rw [←hp.countP_eq,List.countP_filter,List.countP_map];rfl
section
variable {R m:Nat} {f:Int->Int} {a i r g:Int}
theorem Yb (hR:4<=R/\R<=500) (hm:1<=m/\m<=1000) (hN1:R*m<=1000) (ha:0<=a/\a<R) (hi:0<=i/\i<m) (hr:0<=r/\r<=3) (hg:0<=g/\g<=3) {F:Nat} (hF:2000<=F) :
  Ky F (Nv R m f) a i r g=some ((((nbs R m (a*m+i) r g).countP λo=>f o==1:Nat):Int),(((nbs R m (a*m+i) r g).countP λo=>f o != 3:Nat):Int),(((nbs R m (a*m+i) r g).length:Nat):Int)):=by
 have hk:=Vl ha.1 ha.2 hi.1 hi.2;have hin:∀o∈nbs R m (a*m+i) r g,0<=o/\o<((R*m:Nat):Int):=λo ho=>by
  have:=(Y8 (by omega) (by omega) hk hr.1 hg.1).1 ho;rw [Int.natCast_mul];exact ⟨this.2.1,this.2.2.1⟩
 have hnd:=A5f (R:=(R:Int)) (m:=(m:Int)) (k:=a*m+i) (r:=r) (g:=g) (by omega) (by omega) hg.1;generalize hNN:nbs R m (a*m+i) r g=N at *;have l4:∀(b:Nat) (hb:b<R) (k2:Int->Int->Int->Int->Option (Int×Int×Int)) (n j:Nat),m+1<=n+j->j<=m ->
   Jw F (Nv R m f) a i r g b k2 n (cP N (λo=>f o==1) (b*m+j)) (cP N (λo=>f o != 3) (b*m+j)) (cP N (λ_=>true) (b*m+j)) j =
    k2 (cP N (λo=>f o==1) (b*m+m)) (cP N (λo=>f o != 3) (b*m+m)) (cP N (λ_=>true) (b*m+m)) ((b:Int)+1):=by
  intro b hb k2 n;have hbm:b*m+m<=R*m:=by
   have:=Nat.mul_le_mul_right m (show b+1<=R by omega);rw [Nat.add_mul] at this;omega
  induction n with
  | zero=>intro j h1 h2;omega
  | succ n ih =>
   intro j h1 h2;show Ju F (Nv R m f) a i r g b k2 _ _ _ _ j=_;unfold Ju M9;rw [Hp b _ rfl (U1 hb),List.length_map,List.length_range]
   by_cases hj:j<m
   ·have hnear:=A7a (R:=R) (m:=m) ⟨hR.1,by omega⟩ hm ha hi (b:=(b:Int)) (j:=(j:Int)) ⟨by omega,by omega⟩ ⟨by omega,by omega⟩ hr hg (F:=F) (by omega);rw [hNN,show (b:Int)*m+j=((b*m+j:Nat):Int) by rw [Int.natCast_add,Int.natCast_mul]] at hnear;have c1:=A65 N (λo=>f o==1) (b*m+j);have c2:=A65 N (λo=>f o != 3) (b*m+j);have c3:=A65 N (λ_=>true) (b*m+j);have s1:=A0t N (λo=>f o==1) (b*m+j);have s2:=A0t N (λo=>f o != 3) (b*m+j);have s3:=A0t N (λ_=>true) (b*m+j);have ih':=ih (j+1) (by omega) (by omega);rw [←Nat.add_assoc,show ((j+1:Nat):Int)=(j:Int)+1 by omega] at ih';rw [Az (dT (by omega)),A1u,hnear,sbd]
    by_cases hmem:((b*m+j:Nat):Int)∈N
    ·simp only [hmem,decide_true,Bool.and_true,if_true] at s1 s2 s3;rw [dT hmem,An (c:=!true) rfl,ckb (by omega),Hp b _ rfl (U1 hb),Hp j _ rfl (A19 hj)];unfold Jv Fm
     by_cases e1:f ((b*m+j:Nat):Int)=1
     ·rw [if_pos (eqT e1)] at s1;rw [if_pos (neT (by omega))] at s2;rw [Az (eqT e1),ckb (by omega),Hp b _ rfl (U1 hb),Hp j _ rfl (A19 hj),Az (neT (by omega)),ckb (by omega),ckb (by omega)];rw [s1,s2,s3] at ih';exact ih'
     ·rw [if_neg (by rw [eqF e1];simp)] at s1;rw [An (eqF e1),Hp b _ rfl (U1 hb),Hp j _ rfl (A19 hj)]
      by_cases e3:f ((b*m+j:Nat):Int)=3
      ·rw [if_neg (by rw [neF e3];simp)] at s2;rw [An (neF e3),ckb (by omega)];rw [s1,s2,s3] at ih';exact ih'
      ·rw [if_pos (neT e3)] at s2;rw [Az (neT e3),ckb (by omega),ckb (by omega)];rw [s1,s2,s3] at ih';exact ih'
    ·simp only [hmem,decide_false,Bool.and_false,Bool.false_eq_true,if_false,Nat.add_zero] at s1 s2 s3;rw [dF hmem,Az (c:=!false) rfl];unfold Fm;rw [ckb (by omega)];rw [s1,s2,s3] at ih';exact ih'
   ·rw [An (dF (by omega)),ckb (by omega),show j=m by omega]
 have l2:∀(n b:Nat),R+1<=n+b->b<=R->H4 F (Nv R m f) a i r g n (cP N (λo=>f o==1) (b*m)) (cP N (λo=>f o != 3) (b*m)) (cP N (λ_=>true) (b*m)) b=some (((cP N (λo=>f o==1) (R*m):Nat):Int),((cP N (λo=>f o != 3) (R*m):Nat):Int),((cP N (λ_=>true) (R*m):Nat):Int)):=by
  intro n
  induction n with
  | zero=>intro b h1 h2;omega
  | succ n ih =>
   intro b h1 h2;show Jt F (Nv R m f) a i r g _ _ _ _ b=_;unfold Jt M8;rw [A1u]
   by_cases hb:b<R
   ·have:=l4 b hb (H4 F (Nv R m f) a i r g n) F 0 (by omega) (by omega);rw [Az (dT (by omega))];rw [Nat.add_zero] at this;refine Eq.trans this ?_;have:=ih (b+1) (by omega) (by omega);rw [Nat.add_mul,Nat.one_mul] at this;exact this
   ·rw [An (dF (by omega)),show b=R by omega]
 have:=l2 F 0 (by omega) (by omega);rw [Nat.zero_mul] at this;unfold Ky;have z:∀q,cP N q 0=0:=λq=>rfl;rw [z,z,z] at this;refine Eq.trans this ?_;rw [A2u hnd hin,A2u hnd hin,A2u hnd hin,List.countP_true]
end
theorem A3b {l:List Int} {f:Int->Int} (hf:∀o∈l,1<=f o/\f o<=3) :
  Tq 6 l f=(if 0<l.countP (λo=>f o==1) then 1 else if l.countP (λo=>f o != 3)=0 then 3 else 2) /\
  Tq 7 l f=(if l.countP (λo=>f o==1)=l.length then 1 else if l.countP (λo=>f o != 3)<l.length then 3 else 2):=by
 have key:∀(l:List Int),(∀o∈l,1<=f o/\f o<=3)->∀x:Int,1<=x->x<=3 ->
   l.foldl (λa o=>mn a (f o)) x=(if x=1\/0<l.countP (λo=>f o==1) then 1 else if x=3/\l.countP (λo=>f o != 3)=0 then 3 else 2) /\
   l.foldl (λa o=>mx a (f o)) x=(if x=1/\l.countP (λo=>f o==1)=l.length then 1 else if x=3\/l.countP (λo=>f o != 3)<l.length then 3 else 2):=by
  intro l
  induction l with
  | nil =>
   intro _ x h1 h2;simp only [List.foldl_nil,List.countP_nil,List.length_nil];constructor
   ·by_cases e1:x=1
    ·simp [e1]
    ·by_cases e3:x=3
     ·simp [e3]
     ·simp [e1,e3];omega
   ·by_cases e1:x=1
    ·simp [e1]
    ·by_cases e3:x=3
     ·simp [e3]
     ·simp [e1,e3];omega
  | cons o l ih =>
   intro hl x h1 h2;obtain ⟨o1,o2⟩:=hl o (by simp);have hl':∀p∈l,1<=f p/\f p<=3:=λp hp=>hl p (by simp [hp]);have b1:1<=mn x (f o)/\mn x (f o)<=3:=by unfold mn;split<;>omega
   have b2:1<=mx x (f o)/\mx x (f o)<=3:=by unfold mx;split<;>omega
   obtain ⟨i1,-⟩:=ih hl' (mn x (f o)) b1.1 b1.2;obtain ⟨-,i2⟩:=ih hl' (mx x (f o)) b2.1 b2.2;have c1:=List.countP_le_length (p:=λo=>f o==1) (l:=l);have c2:=List.countP_le_length (p:=λo=>f o != 3) (l:=l);rw [List.foldl_cons,List.foldl_cons,i1,i2,List.countP_cons,List.countP_cons,List.length_cons];generalize l.countP (λo=>f o==1)=A at *;generalize l.countP (λo=>f o != 3)=B at *;have d1:(if (f o==1)=true then 1 else 0)=if f o=1 then 1 else 0:=by by_cases e:f o=1<;>simp [e]
   have d2:(if (f o != 3)=true then 1 else 0)=if f o=3 then 0 else 1:=by by_cases e:f o=3<;>simp [e]
   rw [d1,d2];unfold mn mx;constructor
   ·repeat' split
    all_goals omega
   ·repeat' split
    all_goals omega
 unfold Tq;obtain ⟨k1,-⟩:=key l hf 3 (by omega) (by omega);obtain ⟨-,k2⟩:=key l hf 1 (by omega) (by omega);constructor
 ·rw [if_pos rfl,k1];simp
 ·rw [if_neg (by omega),k2];simp
def rv (x:zD):zH:=⟨x.span,x.has⟩
theorem A6r {p q:Prop} [Decidable p] [Decidable q] {n s:Bool} (hs:s=true↔p) (hn:¬p->(n=true↔¬q)):G6 n s=some (tri p q):=by
 unfold G6 tri
 by_cases hp:p
 ·rw [Az (hs.2 hp),if_pos hp]
 ·rw [An (by cases s<;>simp_all),if_neg hp]
  by_cases hq:q
  ·rw [An (by have:=hn hp;cases n<;>simp_all),if_pos hq]
  ·rw [Az ((hn hp).2 hq),if_neg hq]
def LeV (x:zD):Prop:=x.span.Lo<=x.span.Hi
theorem A84 {x y:zD} (hx:LeV x) (hy:LeV y) {op:Int} (hop:8<=op/\op<=13) {F:Nat} (hF:5<=F):Cv F op (rv x) (rv y)=some (Xb op x y):=by
 obtain ⟨F,rfl⟩:∃G,F=G+2:=⟨F-2,by omega⟩;unfold LeV at hx hy;show Fl (F+1) (Cv (F+1)) op (rv x) (rv y)=_;unfold Fl Xb
 by_cases hh:x.has=false\/y.has=false
 ·rw [if_pos hh,Az (by
    unfold rv;rcases hh with h|h<;>rw [h];· rfl
    ·cases x.has<;>rfl)]
 ·have h1:x.has=true:=by cases h:x.has<;>simp_all
  have h2:y.has=true:=by cases h:y.has<;>simp_all
  have e1:(rv x).Has=true:=h1;have e2:(rv y).Has=true:=h2;have lt:∀u v:zD,C2 8 (rv u) (rv v) (decide ((rv u).Span.Lo>=(rv v).Span.Hi)) (decide ((rv u).Span.Hi<(rv v).Span.Lo))=some (tri (u.span.Hi<v.span.Lo) (u.span.Lo<v.span.Hi)):=by
   intro u v;unfold C2;rw [An (eqF (by decide))];exact A6r decide_eq_true_iff λ_=>by rw [decide_eq_true_iff];unfold rv;dsimp only;omega
  have le:∀u v:zD,C2 9 (rv u) (rv v) (decide ((rv u).Span.Lo>(rv v).Span.Hi)) (decide ((rv u).Span.Hi<=(rv v).Span.Lo))=some (tri (u.span.Hi<=v.span.Lo) (u.span.Lo<=v.span.Hi)):=by
   intro u v;unfold C2;rw [An (eqF (by decide))];exact A6r decide_eq_true_iff λ_=>by rw [decide_eq_true_iff];unfold rv;dsimp only;omega
  have eq:∀(c1 c2:Bool),C2 12 (rv x) (rv y) c1 c2=some (tri (mx x.span.Hi y.span.Hi=mn x.span.Lo y.span.Lo) (x.span.Lo<=y.span.Hi/\y.span.Lo<=x.span.Hi)):=by
   intro c1 c2;unfold C2;rw [Az (eqT rfl)];refine A6r ?_ λ_=>?_
   ·unfold rv mx mn;dsimp only;constructor
    ·intro h;have:x.span.Lo=x.span.Hi/\x.span.Lo=y.span.Lo/\x.span.Hi=y.span.Hi:=by simpa [cond_eq_ite] using h
     split<;>split<;>omega
    ·intro h;have:x.span.Lo=x.span.Hi/\x.span.Lo=y.span.Lo/\x.span.Hi=y.span.Hi:=by
      split at h<;>split at h<;>omega
     simp [cond_eq_ite,this];omega
   ·unfold rv;dsimp only;rw [orB];omega
  rw [if_neg hh,e1,e2,An (c:=bif !true then true else !true) rfl];have nx:∀o u v,u.has=true->v.has=true->Cv (F+1) o (rv u) (rv v)=bif (o==10) then ((Cv F 8 (rv v) (rv u)).bind λy17=>some y17) else (bif (o==11) then ((Cv F 9 (rv v) (rv u)).bind λy18=>some y18) else (bif (o==13) then ((Cv F 12 (rv u) (rv v)).bind λy19=>(Hk F y19).bind λy20=>some y20) else (bif (o==9) then (C2 o (rv u) (rv v) (decide ((rv u).Span.Lo>(rv v).Span.Hi)) (decide ((rv u).Span.Hi<=(rv v).Span.Lo))) else (C2 o (rv u) (rv v) (decide ((rv u).Span.Lo>=(rv v).Span.Hi)) (decide ((rv u).Span.Hi<(rv v).Span.Lo)))))):=by
   intro o u v hu hv;show Fl F (Cv F) o (rv u) (rv v)=_;unfold Fl;rw [show (rv u).Has=true from hu,show (rv v).Has=true from hv,An (c:=bif !true then true else !true) rfl]
  rcases A9u hop with rfl|rfl|rfl|rfl|rfl|rfl
  ·rw [An (eqF (by decide)),An (eqF (by decide)),An (eqF (by decide)),An (eqF (by decide)),if_neg (by decide),lt,A3s (.inl rfl)]
  ·rw [An (eqF (by decide)),An (eqF (by decide)),An (eqF (by decide)),Az (eqT rfl),if_neg (by decide),le,A3t (.inl rfl)]
  ·rw [Az (eqT rfl),nx 8 y x h2 h1,An (eqF (by decide)),An (eqF (by decide)),An (eqF (by decide)),An (eqF (by decide)),if_pos (by decide),lt,sbd,A3s (.inr rfl)]
  ·rw [An (eqF (by decide)),Az (eqT rfl),nx 9 y x h2 h1,An (eqF (by decide)),An (eqF (by decide)),An (eqF (by decide)),Az (eqT rfl),if_pos (by decide),le,sbd,A3t (.inr rfl)]
  ·rw [An (eqF (by decide)),An (eqF (by decide)),An (eqF (by decide)),An (eqF (by decide)),if_neg (by decide),eq,A67]
  ·rw [An (eqF (by decide)),An (eqF (by decide)),Az (eqT rfl),nx 12 x y h1 h2,An (eqF (by decide)),An (eqF (by decide)),An (eqF (by decide)),An (eqF (by decide)),if_neg (by decide),eq,sbd];unfold Hk;have ht:=A1f (a:=mx x.span.Hi y.span.Hi=mn x.span.Lo y.span.Lo) (b:=x.span.Lo<=y.span.Hi/\y.span.Lo<=x.span.Hi);rw [ckb (by omega),sbd,A68]
   congr 1
   unfold tri mx mn
   repeat' split
   all_goals omega
structure VSw (s:zG) (R m:Nat):Prop where
 sw:Swp s R m
 kind:∀k:Int,0<=k->k<(R*m:Nat)->(rowS s k).Kind=1\/(rowS s k).Kind=2\/(rowS s k).Kind=3
 ord:∀k:Int,0<=k->k<(R*m:Nat)->RE (rowS s k) (rowS s k)
section
variable {s:zG} {R m:Nat}
theorem VSw.rs (h:VSw s R m):RS s s R m:=⟨h.sw,h.sw,rfl,h.ord⟩
theorem VSw.le (h:VSw s R m) {t:T} (ht:okT false t) {k:Int} (hk:0<=k/\k<(R*m:Nat)):LeV (t.sem s k).2:=by
 rcases (A7f h.rs t k hk).2 ht with ⟨e,-⟩|⟨-,-,h1,h2,h3⟩
 ·rw [e];unfold LeV noV;exact Int.le_refl _
 ·exact h2
theorem B0z (h:Swp s R m) {a i:Nat} (ha:a<R) (hi:i<m):∃row,getI s.Rays (a:Int)=some row/\row.length=m/\getI row (i:Int)=some (rowS s ((a*m+i:Nat):Int)):=by
 have hk:(0:Int)<=((a*m+i:Nat):Int)/\((a*m+i:Nat):Int)<((R*m:Nat):Int):=by
  have:=Nat.mul_le_mul_right m (show a+1<=R by omega);rw [Nat.add_mul] at this;omega
 obtain ⟨row,h1,h2,-⟩:=Yq h hk;have e1:((a*m+i:Nat):Int)/(m:Int)=a:=by rw [Int.natCast_add,Int.natCast_mul];exact Vq (by omega) (by omega)
 have e2:((a*m+i:Nat):Int)%(m:Int)=i:=by rw [Int.natCast_add,Int.natCast_mul];exact Vr (by omega) (by omega)
 rw [e1,Int.toNat_natCast] at h1;rw [e2,Int.toNat_natCast] at h2;refine ⟨row,?_,h.rows row (List.mem_of_getElem? h1),?_⟩
 ·unfold getI;rw [if_pos (by omega),Int.toNat_natCast,h1]
 ·unfold getI;rw [if_pos (by omega),Int.toNat_natCast,h2]
theorem A5m (h:VSw s R m) {a i:Nat} (ha:a<R) (hi:i<m) {op v:Int} (hop:14<=op/\op<=24) (F:Nat):Pw F ⟨op,v,0,0,[]⟩ s a i=some (rv (Qn s op v ((a*m+i:Nat):Int))):=by
 obtain ⟨row,g1,hl,g2⟩:=B0z h.sw ha hi;have hk:(0:Int)<=((a*m+i:Nat):Int)/\((a*m+i:Nat):Int)<((R*m:Nat):Int):=by
  have:=Nat.mul_le_mul_right m (show a+1<=R by omega);rw [Nat.add_mul] at this;omega
 have e1:((a*m+i:Nat):Int)/(m:Int)=a:=by rw [Int.natCast_add,Int.natCast_mul];exact Vq (by omega) (by omega)
 have e2:((a*m+i:Nat):Int)%(m:Int)=i:=by rw [Int.natCast_add,Int.natCast_mul];exact Vr (by omega) (by omega)
 have hkd:=h.kind _ hk.1 hk.2;unfold Pw Qe Qn;rw [g1,sbd,g2,sbd,h.sw.hm,e1,e2];dsimp only;generalize rowS s ((a*m+i:Nat):Int)=e at *;unfold Ez rv pt noV;have key:op=14\/op=15\/op=16\/op=17\/op=18\/op=19\/op=20\/op=21\/op=22\/op=23\/op=24:=by omega
 rcases key with rfl|rfl|rfl|rfl|rfl|rfl|rfl|rfl|rfl|rfl|rfl<;>rcases hkd with hkd|hkd|hkd<;>simp [hkd,g2]
theorem A1e {p0:zE} {F:Nat} (h:Swp s R m) (hF:2000<=F) {L1:List (List (List Int))} {L2:List (List (List zH))} {f:Int->Int}
  (hstep:∀(a i:Nat),a<R->i<m->∀st k3 k6 l,D0 F p0 s L1 L2 st a k3 k6 l i=C0 l i k6 (f ((a*m+i:Nat):Int))):M5 F p0 s L1 L2=some (Nv R m f):=by
 have hN:=h.N1;have hR:=h.R4;have hm:=h.m1;have l6:∀(a:Nat),a<R->∀st k3 (n i:Nat),m+1<=n+i->i<=m->H3 F p0 s L1 L2 st a k3 n ((List.range i).map λi=>f ((a*m+i:Nat):Int)) i=Jq st a k3 ((List.range m).map λi=>f ((a*m+i:Nat):Int)):=by
  intro a ha st k3 n
  induction n with
  | zero=>intro i h1 h2;omega
  | succ n ih =>
   intro i h1 h2;show D0 F p0 s L1 L2 st a k3 _ _ i=_
   by_cases hi:i<m
   ·rw [hstep a i ha hi];unfold C0;rw [show apd 8 ((List.range i).map λi=>f ((a*m+i:Nat):Int)) [f ((a*m+i:Nat):Int)]=some ((List.range (i+1)).map λi=>f ((a*m+i:Nat):Int)) by
     unfold apd;rw [if_pos (by simp;omega),List.range_succ,List.map_append];rfl,sbd,ckb (by omega)]
    exact ih (i+1) (by omega) (by omega)
   ·have e:i=m:=by omega
    subst e;have hl:a<s.Rays.length:=by rw [h.hR];exact ha
    unfold D0;rw [Hp a _ rfl (List.getElem?_eq_getElem hl),h.rows _ (List.getElem_mem hl),An (dF (by omega))]
 have l3:∀(n a:Nat),R+1<=n+a->a<=R->H0 F p0 s L1 L2 n (Nv a m f) a=some (Nv R m f):=by
  intro n
  induction n with
  | zero=>intro a h1 h2;omega
  | succ n ih =>
   intro a h1 h2;show Jp F p0 s L1 L2 _ _ a=_;unfold Jp M6;rw [h.hR]
   by_cases ha:a<R
   ·rw [Az (dT (by omega)),show H3 F p0 s L1 L2 (Nv a m f) a (H0 F p0 s L1 L2 n) F [] 0=_ from l6 a ha _ _ F 0 (by omega) (by omega)];unfold Jq M7;rw [show apd 24 (Nv a m f) [(List.range m).map λi=>f ((a*m+i:Nat):Int)]=some (Nv (a+1) m f) by
     unfold apd Nv;rw [if_pos (by simp;omega),List.range_succ,List.map_append];rfl,sbd,ckb (by omega)]
    exact ih (a+1) (by omega) (by omega)
   ·rw [An (dF (by omega)),show a=R by omega]
 exact l3 F 0 (by omega) (by omega)
theorem A3o {p0:zE} {F:Nat} (h:Swp s R m) (hF:2000<=F) {L1:List (List Int)} {L2:List (List (List zH))} {f:Int->zH}
  (hstep:∀(a i:Nat),a<R->i<m->∀st k3 k6 l,D9 F p0 s L1 L2 st a k3 k6 l i=Da l i k6 (f ((a*m+i:Nat):Int)).Span.Lo (f ((a*m+i:Nat):Int)).Span.Hi (f ((a*m+i:Nat):Int)).Has):La F p0 s L1 L2=some (Nv R m f):=by
 have hN:=h.N1;have hR:=h.R4;have hm:=h.m1;have l6:∀(a:Nat),a<R->∀st k3 (n i:Nat),m+1<=n+i->i<=m->G5 F p0 s L1 L2 st a k3 n ((List.range i).map λi=>f ((a*m+i:Nat):Int)) i=Hw st a k3 ((List.range m).map λi=>f ((a*m+i:Nat):Int)):=by
  intro a ha st k3 n
  induction n with
  | zero=>intro i h1 h2;omega
  | succ n ih =>
   intro i h1 h2;show D9 F p0 s L1 L2 st a k3 _ _ i=_
   by_cases hi:i<m
   ·rw [hstep a i ha hi];unfold Da;rw [show apd 24 ((List.range i).map λi=>f ((a*m+i:Nat):Int)) [(⟨⟨(f ((a*m+i:Nat):Int)).Span.Lo,(f ((a*m+i:Nat):Int)).Span.Hi⟩,(f ((a*m+i:Nat):Int)).Has⟩:zH)]=some ((List.range (i+1)).map λi=>f ((a*m+i:Nat):Int)) by
     unfold apd;rw [if_pos (by simp;omega),List.range_succ,List.map_append];rfl,sbd,ckb (by omega)]
    exact ih (i+1) (by omega) (by omega)
   ·have e:i=m:=by omega
    subst e;have hl:a<s.Rays.length:=by rw [h.hR];exact ha
    unfold D9;rw [Hp a _ rfl (List.getElem?_eq_getElem hl),h.rows _ (List.getElem_mem hl),An (dF (by omega))]
 have l3:∀(n a:Nat),R+1<=n+a->a<=R->G4 F p0 s L1 L2 n (Nv a m f) a=some (Nv R m f):=by
  intro n
  induction n with
  | zero=>intro a h1 h2;omega
  | succ n ih =>
   intro a h1 h2;show Hv F p0 s L1 L2 _ _ a=_;unfold Hv Lb;rw [h.hR]
   by_cases ha:a<R
   ·rw [Az (dT (by omega)),show G5 F p0 s L1 L2 (Nv a m f) a (G4 F p0 s L1 L2 n) F [] 0=_ from l6 a ha _ _ F 0 (by omega) (by omega)];unfold Hw Lc;rw [show apd 24 (Nv a m f) [(List.range m).map λi=>f ((a*m+i:Nat):Int)]=some (Nv (a+1) m f) by
     unfold apd Nv;rw [if_pos (by simp;omega),List.range_succ,List.map_append];rfl,sbd,ckb (by omega)]
    exact ih (a+1) (by omega) (by omega)
   ·rw [An (dF (by omega)),show a=R by omega]
 exact l3 F 0 (by omega) (by omega)
end
theorem A2s {α:Type} {l:List α} {x:α} (h:l.length<=100):apd 24 l [x]=some (l++[x]):=by unfold apd;rw [if_pos (by simp;omega)]
theorem gg {α β:Type} {R m:Nat} {f:Int->α} {a i:Nat} (ha:a<R) (hi:i<m) {k:α->Option β}:((getI (Nv R m f) (a:Int)).bind λu=>(getI u (i:Int)).bind k)=k (f ((a*m+i:Nat):Int)):=by
 rw [Hp a _ rfl (U1 ha),Hp i _ rfl (A19 hi)]
section
variable {s:zG} {R m:Nat}
theorem B03 {a i:Nat} (ha:a<R) (hi:i<m):(0:Int)<=((a*m+i:Nat):Int)/\((a*m+i:Nat):Int)<((R*m:Nat):Int):=by
 have:=Nat.mul_le_mul_right m (show a+1<=R by omega);rw [Nat.add_mul] at this;omega
theorem Vf (h:Swp s R m) {a i:Nat} (ha:a<R) (hi:i<m) {α:Type} {X Y:Option α}:((getI s.Rays (a:Int)).bind λu=>bif (decide ((i:Int)<((u.length:Nat):Int))) then X else Y)=X:=by
 obtain ⟨row,g1,hl,-⟩:=B0z h ha hi;rw [g1,sbd,Az (dT (by omega))]
theorem A2j (h:VSw s R m):∀(t:T) (F:Nat),t.size<=100000->t.size+3000<=F ->
  (okT true t->Dj F t.rnode s=some (Nv R m λk=>(t.sem s k).1))/\(okT false t->Bo F t.rnode s=some (Nv R m λk=>rv (t.sem s k).2)):=by
 have hN:=h.sw.N1;have hR:=h.sw.R4;have hm:=h.sw.m1;have e1:((s.Rays.length:Nat):Int)=R:=by rw [h.sw.hR]
 have e2:s.Site.Gates=(m:Int):=h.sw.hm;have ek:∀a i:Nat,((a:Int)*m+i)=((a*m+i:Nat):Int):=λa i=>by rw [Int.natCast_add,Int.natCast_mul]
 intro t
 induction t with
 | leaf op v =>
  intro F hs hF;obtain ⟨F,rfl⟩:∃G,F=G+2:=⟨F-2,by omega⟩;constructor
  ·intro ho;simp only [okT] at ho;show B5 (F+1) (Dj (F+1)) (Bo (F+1)) ⟨op,v,0,0,[]⟩ s (Jr (F+1) (Dj (F+1)) (Bo (F+1)) ⟨op,v,0,0,[]⟩ s F) [] [] 0=_;unfold B5;rw [An (dF (by simp))];refine A1e h.sw (by omega) λa i ha hi st k3 k6 l=>?_;unfold D0;rw [Vf h.sw ha hi];dsimp only [T.sem];rcases ho.1 with rfl|rfl
   ·rw [Az (eqT rfl),if_pos rfl]
   ·rw [An (eqF (by decide)),An (eqF (by decide)),An (eqF (by decide)),An (eqF (by decide)),An (A14 (eqF (by decide)) (eqF (by decide))),An (dF (by decide)),if_neg (by decide)]
  ·intro ho;simp only [okT] at ho;show Ex (F+1) (Dj (F+1)) (Bo (F+1)) ⟨op,v,0,0,[]⟩ s=_;unfold Ex Ey;rw [An (eqF (by dsimp only;omega))];show Bs (F+1) (Bo (F+1)) ⟨op,v,0,0,[]⟩ s [] (J0 (F+1) (Bo (F+1)) ⟨op,v,0,0,[]⟩ s [] F) [] 0=_;unfold Bs;rw [An (by rw [dF (show ¬(0:Int)<((([]:List zE).length:Nat):Int) by simp)];rfl)];refine A3o h.sw (by omega) λa i ha hi st k3 k6 l=>?_;unfold D9;rw [Vf h.sw ha hi,An (eqF (by dsimp only;omega)),An (dF (by dsimp only;omega)),A5m h ha hi (by omega),sbd];rfl
 | un op r g x ih =>
  intro F hs hF;simp only [T.size] at hs hF;obtain ⟨F,rfl⟩:∃G,F=G+3:=⟨F-3,by omega⟩;have ihx:=ih (F+2) (by omega) (by omega);constructor
  ·intro ho;simp only [okT] at ho;have i1:=ihx.1 ho.2;have hx3:=A4g s x ho.2;show B5 (F+2) (Dj (F+2)) (Bo (F+2)) ⟨op,0,r,g,[x.rnode]⟩ s _ [] [] 0=_;unfold B5;rw [Az (dT (by simp)),An (dF (by dsimp only;omega)),R8,i1,sbd,A2s (by simp),sbd];unfold Dm;rw [ckb (by omega)];show B5 (F+2) (Dj (F+2)) (Bo (F+2)) ⟨op,0,r,g,[x.rnode]⟩ s _ ([]++[_]) [] (0+1)=_;unfold B5;rw [An (dF (by simp)),List.nil_append];refine A1e h.sw (by omega) λa i ha hi st k3 k6 l=>?_;have hk:=B03 (R:=R) ha hi;unfold D0;rw [Vf h.sw ha hi];dsimp only [T.sem];rcases ho.1 with ⟨rfl,-,-⟩|⟨hop,r1,r2,g1,g2⟩
   ·have:=hx3 ((a*m+i:Nat):Int);rw [An (eqF (by decide)),Az (eqT rfl),R8,gg ha hi];unfold Hk;rw [ckb (by omega),sbd,if_pos rfl]
   ·have hc:=Yb (R:=R) (m:=m) (f:=λk=>(x.sem s k).1) (a:=(a:Int)) (i:=(i:Int)) hR hm hN ⟨by omega,by omega⟩ ⟨by omega,by omega⟩ ⟨r1,r2⟩ ⟨g1,g2⟩ (F:=F+2) (by omega);rw [ek a i] at hc;obtain ⟨n6,n7⟩:=A3b (l:=nbs R m ((a*m+i:Nat):Int) r g) (f:=λk=>(x.sem s k).1) (λo _=>hx3 o);have hle:=List.countP_le_length (p:=λo=>(x.sem s o).1 != 3) (l:=nbs R m ((a*m+i:Nat):Int) r g);rw [An (eqF (by omega)),An (eqF (by omega)),An (eqF (by omega)),An (eqF (by omega)),Az (by rcases hop with h|h<;>rw [h]<;>rfl),R8,hc,sbd,if_neg (show op≠3 by omega),e1,e2]
    dsimp only at n6 n7 ⊢;generalize (nbs R m ((a*m+i:Nat):Int) r g).countP (λo=>(x.sem s o).1==1)=A at *;generalize (nbs R m ((a*m+i:Nat):Int) r g).countP (λo=>(x.sem s o).1 != 3)=B at *;generalize (nbs R m ((a*m+i:Nat):Int) r g).length=C at *;rcases hop with rfl|rfl
    ·rw [n6]
     by_cases c1:0<A
     ·rw [if_pos c1,Az (by rw [dT (show (A:Int)>0 by omega)];rfl)]
     ·rw [if_neg c1,An (by rw [dF (show ¬(A:Int)>0 by omega)];rfl)]
      by_cases c2:B=0
      ·rw [if_pos c2,Az (by rw [eqT (show (B:Int)=0 by omega)];rfl)]
      ·rw [if_neg c2,An (by rw [eqF (show (B:Int)≠0 by omega)];rfl)]
    ·rw [n7]
     by_cases c1:A=C
     ·rw [if_pos c1,Az (by rw [eqT (show (A:Int)=C by omega)];rfl)]
     ·rw [if_neg c1,An (by rw [eqF (show (A:Int)≠C by omega)];rfl)]
      by_cases c2:B<C
      ·rw [if_pos c2,Az (by rw [dT (show (B:Int)<C by omega)];rfl)]
      ·rw [if_neg c2,An (by rw [dF (show ¬(B:Int)<C by omega)];rfl)]
  ·intro ho;simp only [okT] at ho;obtain ⟨⟨rfl,r1,r2,g1,g2⟩,hox⟩:=ho;have i1:=ihx.1 hox;show Ex (F+2) (Dj (F+2)) (Bo (F+2)) ⟨25,0,r,g,[x.rnode]⟩ s=_;unfold Ex Ey;rw [Az (eqT rfl),R8,i1,sbd];show Bs (F+2) (Bo (F+2)) ⟨25,0,r,g,[x.rnode]⟩ s _ _ [] 0=_;unfold Bs;rw [An (by rw [dF (show ¬(25:Int)>=26 by decide)];cases decide ((0:Int)<((([x.rnode]:List zE).length:Nat):Int))<;>rfl)]
   refine A3o h.sw (by omega) λa i ha hi st k3 k6 l=>?_;have hc:=Yb (R:=R) (m:=m) (f:=λk=>(x.sem s k).1) (a:=(a:Int)) (i:=(i:Int)) hR hm hN ⟨by omega,by omega⟩ ⟨by omega,by omega⟩ ⟨r1,r2⟩ ⟨g1,g2⟩ (F:=F+2) (by omega);rw [ek a i] at hc;unfold D9;rw [Vf h.sw ha hi,Az (eqT rfl),hc,sbd];dsimp only [T.sem,rv,Rn];rw [e1,e2]
 | bin op x y ihx ihy =>
  intro F hs hF;simp only [T.size] at hs hF;obtain ⟨F,rfl⟩:∃G,F=G+4:=⟨F-4,by omega⟩;have ix:=ihx (F+3) (by omega) (by omega);have iy:=ihy (F+3) (by omega) (by omega);constructor
  ·intro ho;simp only [okT] at ho;show B5 (F+3) (Dj (F+3)) (Bo (F+3)) ⟨op,0,0,0,[x.rnode,y.rnode]⟩ s _ [] [] 0=_;rcases ho with ⟨hop,ox,oy⟩|⟨o1,o2,ox,oy⟩
   ·have i1:=ix.1 ox;have i2:=iy.1 oy;unfold B5;rw [Az (dT (by simp)),An (dF (by dsimp only;omega)),R8,i1,sbd,A2s (by simp),sbd];unfold Dm;rw [ckb (by omega)];show B5 (F+3) (Dj (F+3)) (Bo (F+3)) ⟨op,0,0,0,[x.rnode,y.rnode]⟩ s _ ([]++[_]) [] 1=_;unfold B5;rw [Az (dT (by simp)),An (dF (by dsimp only;omega)),Xh,i2,sbd,A2s (by simp),sbd];unfold Dm;rw [ckb (by omega)];show B5 (F+3) (Dj (F+3)) (Bo (F+3)) ⟨op,0,0,0,[x.rnode,y.rnode]⟩ s _ (([]++[_])++[_]) [] 2=_;unfold B5;rw [An (dF (by simp)),List.nil_append,List.cons_append,List.nil_append];refine A1e h.sw (by omega) λa i ha hi st k3 k6 l=>?_;unfold D0;rw [Vf h.sw ha hi];dsimp only [T.sem];rcases hop with rfl|rfl
    ·rw [An (eqF (by decide)),An (eqF (by decide)),Az (eqT rfl),R8,gg ha hi,Xh,gg ha hi,if_pos rfl];rfl
    ·rw [An (eqF (by decide)),An (eqF (by decide)),An (eqF (by decide)),Az (eqT rfl),R8,gg ha hi,Xh,gg ha hi,if_neg (show ¬(5:Int)=4 by decide),if_pos (show (5:Int)=5 from rfl)];rfl
   ·have i1:=ix.2 ox;have i2:=iy.2 oy;unfold B5;rw [Az (dT (by simp)),Az (dT (by dsimp only;omega)),R8,i1,sbd,A2s (by simp),sbd];unfold Dm;rw [ckb (by omega)];show B5 (F+3) (Dj (F+3)) (Bo (F+3)) ⟨op,0,0,0,[x.rnode,y.rnode]⟩ s _ [] ([]++[_]) 1=_;unfold B5;rw [Az (dT (by simp)),Az (dT (by dsimp only;omega)),Xh,i2,sbd,A2s (by simp),sbd];unfold Dm;rw [ckb (by omega)];show B5 (F+3) (Dj (F+3)) (Bo (F+3)) ⟨op,0,0,0,[x.rnode,y.rnode]⟩ s _ [] (([]++[_])++[_]) 2=_;unfold B5;rw [An (dF (by simp)),List.nil_append,List.cons_append,List.nil_append];refine A1e h.sw (by omega) λa i ha hi st k3 k6 l=>?_;have hk:=B03 (R:=R) ha hi;unfold D0;rw [Vf h.sw ha hi];dsimp only [T.sem];rw [An (eqF (by omega)),An (eqF (by omega)),An (eqF (by omega)),An (eqF (by omega)),An (A14 (eqF (by omega)) (eqF (by omega))),Az (dT (by omega)),R8,gg ha hi,Xh,gg ha hi,A84 (h.le ox hk) (h.le oy hk) ⟨o1,o2⟩ (by omega),sbd,if_neg (by omega),if_neg (by omega)]
  ·intro ho;simp only [okT] at ho;obtain ⟨hop,ox,oy,-⟩:=ho;have i1:=ix.2 ox;have i2:=iy.2 oy;show Ex (F+3) (Dj (F+3)) (Bo (F+3)) ⟨op,0,0,0,[x.rnode,y.rnode]⟩ s=_;unfold Ex Ey;rw [An (eqF (by dsimp only;omega))];show Bs (F+3) (Bo (F+3)) ⟨op,0,0,0,[x.rnode,y.rnode]⟩ s [] _ [] 0=_;unfold Bs;rw [Az (by rw [dT (show (0:Int)<((([x.rnode,y.rnode]:List zE).length:Nat):Int) by simp),dT (show op>=26 by omega)];rfl),R8,i1,sbd,A2s (by simp),sbd,ckb (by omega)];show Bs (F+3) (Bo (F+3)) ⟨op,0,0,0,[x.rnode,y.rnode]⟩ s [] _ ([]++[_]) 1=_;unfold Bs;rw [Az (by rw [dT (show (1:Int)<((([x.rnode,y.rnode]:List zE).length:Nat):Int) by simp),dT (show op>=26 by omega)];rfl),Xh,i2,sbd,A2s (by simp),sbd,ckb (by omega)];show Bs (F+3) (Bo (F+3)) ⟨op,0,0,0,[x.rnode,y.rnode]⟩ s [] _ (([]++[_])++[_]) 2=_;unfold Bs;rw [An (by rw [dF (show ¬(2:Int)<((([x.rnode,y.rnode]:List zE).length:Nat):Int) by simp)];rfl),List.nil_append,List.cons_append,List.nil_append];refine A3o h.sw (by omega) λa i ha hi st k3 k6 l=>?_;have hk:=B03 (R:=R) ha hi;obtain ⟨x1,x2,x3,x4⟩:=A1d h.sw x ox _ hk;obtain ⟨y1,y2,y3,y4⟩:=A1d h.sw y oy _ hk;unfold D9;rw [Vf h.sw ha hi,An (eqF (by dsimp only;omega)),Az (dT (by dsimp only;omega)),R8,gg ha hi,Xh,gg ha hi];dsimp only [T.sem];unfold Yl;generalize (x.sem s ((a*m+i:Nat):Int)).2=u at *;generalize (y.sem s ((a*m+i:Nat):Int)).2=v at *
   by_cases hh:u.has=false\/v.has=false
   ·have hb:(bif (rv u).Has then (rv v).Has else false)=false:=by
     unfold rv;rcases hh with h|h<;>rw [h]
     ·rfl
     ·cases u.has<;>rfl
    rw [if_pos hh,hb,An (c:=bif false then (op==26) else false) rfl,An rfl];rfl
   ·have h1:(rv u).Has=true:=by show u.has=true;cases h:u.has<;>simp_all
    have h2:(rv v).Has=true:=by show v.has=true;cases h:v.has<;>simp_all
    rw [if_neg hh,h1,h2];rcases hop with rfl|rfl
    ·rw [Az (c:=bif (bif true then true else false) then ((26:Int)==26) else false) rfl,ckb (by unfold rv;dsimp only;omega),ckb (by unfold rv;dsimp only;omega),if_neg (by decide)];rfl
    ·rw [An (c:=bif (bif true then true else false) then ((27:Int)==26) else false) rfl,Az (c:=bif true then true else false) rfl,ckb (by unfold rv;dsimp only;omega),ckb (by unfold rv;dsimp only;omega),if_pos rfl];rfl
end
theorem Tj (F:Nat) (s:zM) (h:Cs F s=some 0):1<=s.Gates/\s.Gates<=200:=by
 unfold Cs at h;rw [Yp,sbd] at h;simp only [D5,Cp] at h;have hr:As s.Gates 1 200=true:=by
  cases hb:As s.Gates 1 200 with
  | true=>rfl
  | false =>
   exfalso;rw [hb] at h;revert h
   cases Y9 s.Name<;>cases As s.X (-1048576) 1048576<;>cases As s.Y (-1048576) 1048576<;>cases As s.Z 0 20000<;>cases As s.Rose 1 90<;>simp
 unfold As at hr
 revert hr
 cases h1:decide (1<=s.Gates)<;>simp at h1 ⊢
 omega
theorem A8m (F:Nat) (hF:2000<=F) (s:zG) (hX:s.Rays.length<=1000) (hgt:s.Site.Gates<=1000):∀(q N i:Nat),i+q=s.Rays.length->q<N->(∀(j:Nat) r,j<i->s.Rays[j]? = some r->(r.length:Int)=s.Site.Gates) ->
  Dt F s N (i:Int)=some (Y7 s.Site.Gates s.Rays (s.Rays.drop i)):=by
 intro q
 induction q with
 | zero =>
  intro N i hi hN hpre;obtain ⟨N,rfl⟩:∃N',N=N'+1:=⟨N-1,by omega⟩;show Dq F s (Dt F s N) (i:Int)=_;unfold Dq Ja;rw [An (dF (by omega)),List.drop_eq_nil_of_le (by omega)];exact B0j F hF s hX (λr hr=>by
   obtain ⟨j,hj,e⟩:=List.mem_iff_getElem.1 hr;have:=hpre j r (by omega) (by rw [←e];exact List.getElem?_eq_getElem hj);omega) s.Rays.length F 0 (by omega) (by omega)
 | succ q ih =>
  intro N i hi hN hpre;obtain ⟨N,rfl⟩:∃N',N=N'+1:=⟨N-1,by omega⟩;show Dq F s (Dt F s N) (i:Int)=_;unfold Dq;rw [Az (dT (by omega)),A10 [] (by omega),Int.toNat_natCast,Ur (i:=i) (l:=s.Rays) (by omega) []];unfold Y7
  by_cases h:((s.Rays.getD i []).length:Int)=s.Site.Gates
  ·have:=ih N (i+1) (by omega) (by omega) λj r hj hr=>by
    by_cases ej:j=i
    ·subst ej;rw [List.getD_eq_getElem?_getD,hr] at h;exact h
    ·exact hpre j r (by omega) hr
   rw [Int.natCast_add] at this;rw [An (by rw [h];simp),ckb (by omega),if_pos h];exact this
  ·rw [Az (by simpa only [bne_iff_ne,ne_eq] using h),if_neg h]
theorem A8o (F:Nat) (hF:2000<=F) (s:zG) (hX:s.Rays.length<=1000) (hgt:s.Site.Gates<=1000):∀(q N i:Nat),i+q=s.Rays.length->q<N->(∀(j:Nat) r,j<i->s.Rays[j]? = some r->(r.length:Int)=s.Site.Gates) ->
  Dy F s N (i:Int)=some (Y7 s.Site.Gates s.Rays (s.Rays.drop i)):=by
 intro q
 induction q with
 | zero =>
  intro N i hi hN hpre;obtain ⟨N,rfl⟩:∃N',N=N'+1:=⟨N-1,by omega⟩;show Dw F s (Dy F s N) (i:Int)=_;unfold Dw Jc;rw [An (dF (by omega)),List.drop_eq_nil_of_le (by omega)];exact B0m F hF s hX (λr hr=>by
   obtain ⟨j,hj,e⟩:=List.mem_iff_getElem.1 hr;have:=hpre j r (by omega) (by rw [←e];exact List.getElem?_eq_getElem hj);omega) s.Rays.length F 0 (by omega) (by omega)
 | succ q ih =>
  intro N i hi hN hpre;obtain ⟨N,rfl⟩:∃N',N=N'+1:=⟨N-1,by omega⟩;show Dw F s (Dy F s N) (i:Int)=_;unfold Dw;rw [Az (dT (by omega)),A10 [] (by omega),Int.toNat_natCast,Ur (i:=i) (l:=s.Rays) (by omega) []];unfold Y7
  by_cases h:((s.Rays.getD i []).length:Int)=s.Site.Gates
  ·have:=ih N (i+1) (by omega) (by omega) λj r hj hr=>by
    by_cases ej:j=i
    ·subst ej;rw [List.getD_eq_getElem?_getD,hr] at h;exact h
    ·exact hpre j r (by omega) hr
   rw [Int.natCast_add] at this;rw [An (by rw [h];simp),ckb (by omega),if_pos h];exact this
  ·rw [Az (by simpa only [bne_iff_ne,ne_eq] using h),if_neg h]
theorem A22 (F:Nat) (hF:2000<=F) (s:zG) (hX:s.Rays.length<=1000):C5 F s=Q7 F s:=by
 unfold C5 Q7;rw [A9o s B3 A9k];obtain ⟨e,he⟩:=Qm F s.Site;rw [he,sbd,sbd]
 by_cases h0:e=0
 ·have hr:=Xu F s.Site (by rw [he,h0]);have hgt:=Tj F s.Site (by rw [he,h0]);rw [An (by simp [h0]),if_neg (by simp [h0])]
  by_cases h1:¬(0<=s.Tilt/\s.Tilt<=256/\0<=s.Time/\s.Time<=4294967296)
  ·rw [Az (dT h1),if_pos h1]
  ·rw [An (dF h1),if_neg h1,ckb (by omega)]
   by_cases h2:(s.Rays.length:Int)=4*s.Site.Rose
   ·rw [An (by simp [h2]),if_neg (by simp [h2])];exact A8m F hF s hX (by omega) s.Rays.length F 0 (by omega) (by omega) (λj r h=>by omega)
   ·rw [Az (by simpa using h2),if_pos h2]
 ·rw [Az (by simpa using h0),if_pos h0]
theorem A74 (F:Nat) (hF:2000<=F) (s:zG) (hX:s.Rays.length<=1000):Gz F s=Q7 F s:=by
 unfold Gz Q7;rw [A9o s Ai A9k,A7h (by omega)];obtain ⟨e,he⟩:=Qm F s.Site;rw [he,sbd,sbd]
 by_cases h0:e=0
 ·have hr:=Xu F s.Site (by rw [he,h0]);have hgt:=Tj F s.Site (by rw [he,h0]);rw [An (by simp [h0]),if_neg (by simp [h0])]
  by_cases h1:¬(0<=s.Tilt/\s.Tilt<=256/\0<=s.Time/\s.Time<=4294967296)
  ·rw [Az (dT h1),if_pos h1]
  ·rw [An (dF h1),if_neg h1,ckb (by omega)]
   by_cases h2:(s.Rays.length:Int)=4*s.Site.Rose
   ·rw [An (by simp [h2]),if_neg (by simp [h2])];exact A8o F hF s hX (by omega) s.Rays.length F 0 (by omega) (by omega) (λj r h=>by omega)
   ·rw [Az (by simpa using h2),if_pos h2]
 ·rw [Az (by simpa using h0),if_pos h0]
theorem Vh {e:zJ} (h:Rc e=0):(e.Kind=1\/e.Kind=2\/e.Kind=3)/\bdE e/\RE e e:=by
 unfold Rc at h
 by_cases hk:e.Kind≠1/\e.Kind≠2/\e.Kind≠3
 ·rw [if_pos hk] at h;cases h
 ·rw [if_neg hk] at h;have hk':e.Kind=1\/e.Kind=2\/e.Kind=3:=by omega
  have ho:Xn e=true:=by
   cases hc:Xn e
   ·rw [hc,if_neg (by decide)] at h;cases h
   ·rfl
  clear h hk
  unfold Xn inB noB Py at ho;have key:(0<=e.Power.Lo/\e.Power.Lo<=e.Power.Hi/\e.Power.Hi<=1073741824)/\(0<=e.Ratio.Lo/\e.Ratio.Lo<=e.Ratio.Hi/\e.Ratio.Hi<=1000000)/\(0<=e.Match.Lo/\e.Match.Lo<=e.Match.Hi/\e.Match.Hi<=1000) /\
    (-32768<=e.Turn.Lo/\e.Turn.Lo<=e.Turn.Hi/\e.Turn.Hi<=98304)/\(-32768<=e.Steps.1.Lo/\e.Steps.1.Lo<=e.Steps.1.Hi/\e.Steps.1.Hi<=98304)/\(-32768<=e.Steps.2.Lo/\e.Steps.2.Lo<=e.Steps.2.Hi/\e.Steps.2.Hi<=98304)/\0<=e.Spread/\e.Spread<=65535:=by
   by_cases k1:e.Kind=1
   ·simp only [k1,if_true,Bool.and_eq_true,decide_eq_true_eq] at ho;omega
   ·by_cases k2:e.Kind=2
    ·simp only [k1,k2,if_true,if_false,Bool.and_eq_true,decide_eq_true_eq,if_neg (show ¬(2:Int)=1 by decide)] at ho;omega
    ·simp only [if_neg k1,if_neg k2,Bool.and_eq_true,decide_eq_true_eq] at ho;omega
  refine ⟨hk',?_,?_⟩
  ·unfold bdE bdS;omega
  ·refine ⟨rfl,?_,?_,?_,?_,?_,rfl⟩<;>(unfold InSp;omega)
theorem A7t {F:Nat} {s:zG} (h:Q7 F s=some 0) (hX:s.Rays.length<=16) (hN:(∀l∈s.Rays,l.length<=1000)->(s.Rays.map (·.length)).sum<=60) :
  VSw s s.Rays.length s.Site.Gates.toNat/\(s.Rays.length:Int)=4*s.Site.Rose/\1<=s.Site.Gates:=by
 obtain ⟨c1,c2⟩:=A7l h;unfold Q7 at h;obtain ⟨e,he⟩:=Qm F s.Site;rw [he,sbd] at h;have h0:e=0:=by
  by_cases c:e≠0
  ·rw [if_pos c] at h;exact Option.some.inj h
  ·omega
 rw [if_neg (by omega)] at h;have ht:0<=s.Tilt/\s.Tilt<=256/\0<=s.Time/\s.Time<=4294967296:=by
  by_cases c:¬(0<=s.Tilt/\s.Tilt<=256/\0<=s.Time/\s.Time<=4294967296)
  ·rw [if_pos c] at h;cases h
  ·omega
 rw [if_neg (λc=>c ht)] at h;have hr:(s.Rays.length:Int)=4*s.Site.Rose:=by
  by_cases c:(s.Rays.length:Int)≠4*s.Site.Rose
  ·rw [if_pos c] at h;cases h
  ·omega
 have g1:=Xu F s.Site (by rw [he,h0]);have g2:=Tj F s.Site (by rw [he,h0]);have hrow:∀l∈s.Rays,l.length=s.Site.Gates.toNat:=λl hl=>by have:=c1 l hl;omega
 have hsum:(s.Rays.map (·.length)).sum=s.Rays.length*s.Site.Gates.toNat:=by
  have:∀X:List (List zJ),(∀l∈X,l.length=s.Site.Gates.toNat)->(X.map (·.length)).sum=X.length*s.Site.Gates.toNat:=by
   intro X
   induction X with
   | nil=>intro _;simp
   | cons l X ih =>
    intro hX;rw [List.map_cons,List.sum_cons,List.length_cons,ih λx hx=>hX x (by simp [hx]),hX l (by simp),Nat.add_mul];omega
  exact this _ hrow
 have hN':=hN λl hl=>by have:=hrow l hl;omega
 have hsw:Swp s s.Rays.length s.Site.Gates.toNat:=by
  refine ⟨rfl,by omega,by omega,by omega,by omega,hrow,λl hl e he=>(Vh (c2 l hl e he)).2.1,by omega⟩
 have hat:∀k:Int,0<=k->k<(s.Rays.length*s.Site.Gates.toNat:Nat)->Rc (rowS s k)=0:=by
  intro k h1 h2;obtain ⟨row,r1,r2,-⟩:=Yq hsw ⟨h1,h2⟩;exact c2 row (List.mem_of_getElem? r1) _ (List.mem_of_getElem? r2)
 exact ⟨⟨hsw,λk h1 h2=>(Vh (hat k h1 h2)).1,λk h1 h2=>(Vh (hat k h1 h2)).2.2⟩,hr,g2.1⟩
theorem A7i (s:zG) (hl:s.Rays.length<=maxLen) {F:Nat} (hF:s.Rays.length+2<=F):∃b,Re F s=some b/\(b=true->s.Rays.length<=16/\((∀l∈s.Rays,l.length<=1000)->(s.Rays.map (·.length)).sum<=60)):=by
 have hml:maxLen=9223372036854775807:=rfl;have go:∀(n i:Nat) (x:Int),s.Rays.length+1<=n+i->i<=s.Rays.length->(s.Rays.length<=16->(∀l∈s.Rays,l.length<=1000)->x=(((s.Rays.take i).map (·.length)).sum:Nat)) ->
   ∃b,Lh s n x i=some b/\(b=true->s.Rays.length<=16/\((∀l∈s.Rays,l.length<=1000)->(s.Rays.map (·.length)).sum<=60)):=by
  intro n
  induction n with
  | zero=>intro i x h1 h2;omega
  | succ n ih =>
   intro i x h1 h2 h3;show ∃b,Lg s _ x i=_/\_;unfold Lg N9
   by_cases hi:i<s.Rays.length
   ·have hx:=List.getElem?_eq_getElem hi;have htk:s.Rays.take (i+1)=s.Rays.take i++[s.Rays[i]]:=by rw [List.take_add_one,hx];rfl
    have hmem:=List.getElem_mem hi;generalize s.Rays[i]=l at hx htk hmem;rw [Az (dT (by omega)),Hp i l rfl hx,show ∀f:Int->Option Bool,(ck ((i:Int)+1)).bind f=f ((i:Int)+1) from λf=>by unfold ck;rw [if_pos (by omega)];rfl];rw [show (i:Int)+1=((i+1:Nat):Int) by omega];refine ih (i+1) _ (by omega) (by omega) λh4 h5=>?_;have h6:=h3 h4 h5;have hs:∀X:List (List zJ),(∀l∈X,l.length<=1000)->(X.map (·.length)).sum<=1000*X.length:=by
     intro X
     induction X with
     | nil=>intro _;simp
     | cons a X ihX =>
      intro hX;have:=hX a (by simp);have:=ihX λb hb=>hX b (by simp [hb]);rw [List.map_cons,List.sum_cons,List.length_cons];omega
    have h7:=hs (s.Rays.take i) λl hl=>h5 l (List.mem_of_mem_take hl);have h8:(s.Rays.take i).length<=16:=by simp;omega
    have h9:=h5 l hmem;rw [h6,Go.Eng.wrap64 (by omega),htk,List.map_append,List.sum_append];simp
   ·rw [An (dF (by omega))];refine ⟨_,rfl,λhb=>?_⟩
    by_cases h4:s.Rays.length<=16
    ·rw [dT (show ((s.Rays.length:Nat):Int)<=16 by omega),Az rfl] at hb;have hb:=of_decide_eq_true hb;refine ⟨h4,λh5=>?_⟩;have:=h3 h4 h5;rw [List.take_of_length_le (by omega)] at this;omega
    ·rw [dF (show ¬((s.Rays.length:Nat):Int)<=16 by omega),An rfl] at hb;cases hb
 exact go F 0 0 (by omega) (by omega) (λ_ _=>rfl)
theorem A5w (k:Nat):N5 (k+4000)=some true:=by kernel_rfl
section
variable {n:zE} {s:zG} {ray gate:Int} {F:Nat}
theorem A08 (h9:¬nds n<=300) (hn:nds n<=100000) (hF:2000<=F) (b:Bool):Eg F n b s ray gate=some 9/\C7 F (cv n) s ray gate=some (.error 9)/\C8 F (cv n) s ray gate=some (.error 9):=by
 have s1:=Yw 300 F n (by omega) (by omega);have s2:=Wt 300 F n (by omega) (by omega);have hc:cnt 300 n=301:=by unfold cnt;omega
 rw [hc] at s1 s2;unfold Eg C7 C8;rw [show E0 F n 300=_ from s2,show Bp F (cv n) 300=_ from s1,sbd,sbd,sbd,Az (dT (by decide)),Az (dT (by decide)),Az (dT (by decide))];exact ⟨rfl,rfl,rfl⟩
theorem A07 (h9:nds n<=300) (hF:2000<=F) (h24:¬dpt n<=12) (b:Bool):Eg F n b s ray gate=some 24/\C7 F (cv n) s ray gate=some (.error 24)/\C8 F (cv n) s ray gate=some (.error 24):=by
 have s1:=Yw 300 F n (by omega) (by omega);have s2:=Wt 300 F n (by omega) (by omega);have hc:cnt 300 n<=300:=by unfold cnt;omega
 obtain ⟨d1,d2⟩:=A1o F n (by omega) (by omega);refine ⟨?_,?_,?_⟩
 ·unfold Eg;rw [show E0 F n 300=_ from s2,sbd,An (dF (by omega)),d1,sbd,Az (dT (by omega))]
 ·unfold C7;rw [show Bp F (cv n) 300=_ from s1,sbd,An (dF (by omega)),d2,sbd,Az (dT (by omega))]
 ·unfold C8;rw [show Bp F (cv n) 300=_ from s1,sbd,An (dF (by omega)),d2,sbd,Az (dT (by omega))]
def Vx (s:zG) (ray gate e:Int):Int:=if e≠0 then e else if 0<=ray/\ray<s.Rays.length/\0<=gate/\gate<s.Site.Gates then 0 else 4
theorem A4d (hX:s.Rays.length<=16) {e:Int} (he:e=0->(s.Rays.length:Int)=4*s.Site.Rose/\1<=s.Site.Gates/\s.Site.Gates<=200) :
  ((gd (((e==0)==true&&true)) (ck (4*s.Site.Rose)) 0).bind λx16=>(gd (((e==0)==true&&true)) (ck (x16-1)) 0).bind λx17=>(gd (((!(Ai ray 0 x17))==false&&((e==0)==true&&true))) (ck (s.Site.Gates-1)) 0).bind λx18 =>
   bif (bif (e==0) then (bif (!(Ai ray 0 x17)) then true else (!(Ai gate 0 x18))) else false) then (some (4:Int)) else (some e))=some (Vx s ray gate e):=by
 unfold Vx
 by_cases h0:e=0
 ·obtain ⟨h1,h2,h3⟩:=he h0;have inr:∀x:Int,Ai ray 0 x=decide (0<=ray/\ray<=x):=λx=>by unfold Ai;by_cases c:ray>=0<;>simp [c]
  have ing:∀x:Int,Ai gate 0 x=decide (0<=gate/\gate<=x):=λx=>by unfold Ai;by_cases c:gate>=0<;>simp [c]
  rw [eqT h0,gdT (g:=true==true&&true) rfl,ckb (by omega),gdT (g:=true==true&&true) rfl,ckb (by omega),inr,if_neg (by omega)]
  by_cases c1:0<=ray/\ray<=4*s.Site.Rose-1
  ·rw [dT c1,gdT (g:=(!true)==false&&(true==true&&true)) rfl,ckb (by omega),ing]
   by_cases c2:0<=gate/\gate<=s.Site.Gates-1
   ·rw [dT c2,An (c:=bif true then (bif (!true) then true else (!true)) else false) rfl,if_pos (by omega),h0]
   ·rw [dF c2,Az (c:=bif true then (bif (!true) then true else (!false)) else false) rfl,if_neg (by omega)]
  ·rw [dF c1,gdF (g:=(!false)==false&&(true==true&&true)) rfl,sbd,Az (c:=bif true then (bif (!false) then true else (!(Ai gate 0 0))) else false) rfl,if_neg (by omega)]
 ·rw [eqF h0,gdF (g:=false==true&&true) rfl,sbd,gdF (g:=false==true&&true) rfl,sbd,gdF (g:=(!(Ai ray 0 0))==false&&(false==true&&true)) (by cases (Ai ray 0 0)<;>rfl),sbd,An (c:=bif false then (bif (!(Ai ray 0 0)) then true else (!(Ai gate 0 0))) else false) rfl,if_pos h0]
theorem A26 (hX:s.Rays.length<=16) {e:Int} (he:e=0->(s.Rays.length:Int)=4*s.Site.Rose/\1<=s.Site.Gates/\s.Site.Gates<=200) :
  (bif (e != 0) then (some (.error e)) else (bif (bif (bif (decide ((if gate<ray then gate else ray)<0)) then true else (decide (ray>=((s.Rays.length:Nat):Int)))) then true else (decide (gate>=s.Site.Gates))) then (some (.error 4)) else ((Gr F s).bind λy15=>some (.ok (y15,0)))):Option (Except Int (zF×Int))) =
   if Vx s ray gate e≠0 then some (.error (Vx s ray gate e)) else some (.ok (⟨s,(s.Rays.length:Int)*s.Site.Gates,[],[]⟩,0)):=by
 unfold Vx
 by_cases h0:e=0
 ·obtain ⟨h1,h2,h3⟩:=he h0;rw [An (neF h0),if_neg (show ¬e≠0 by omega)]
  by_cases c:0<=ray/\ray<s.Rays.length/\0<=gate/\gate<s.Site.Gates
  ·rw [An (A14 (A14 (dF (by split<;>omega)) (dF (by omega))) (dF (by omega))),if_pos c,if_neg (by decide)];have hb:(s.Rays.length:Int)*s.Site.Gates<=16*200:=Int.mul_le_mul (by omega) h3 (by omega) (by omega);have hb0:0<=(s.Rays.length:Int)*s.Site.Gates:=Int.mul_nonneg (by omega) (by omega);unfold Gr;rw [ckb (by omega),sbd]
  ·rw [Az (by
    by_cases d1:(if gate<ray then gate else ray)<0
    ·rw [dT d1];rfl
    ·rw [dF d1];have:0<=ray/\0<=gate:=by split at d1<;>omega
     by_cases d2:ray>=((s.Rays.length:Nat):Int)
     ·rw [dT d2];rfl
     ·rw [dF d2,dT (by omega)];rfl),if_neg c,if_pos (by decide)]
 ·rw [Az (neT h0),if_pos h0,if_pos h0]
theorem A62 (h9:nds n<=300) (h24:dpt n<=12) (hF:2000<=F) (hX:s.Rays.length<=16) :
  ∃e,Q7 F s=some e/\(∀b:Bool,((b=true/\¬VT n\/b=false/\¬VF n)->Eg F n b s ray gate=some 2)/\((b=true/\VT n\/b=false/\VF n)->Eg F n b s ray gate=some (Vx s ray gate e))) /\
   (¬VT n->C7 F (cv n) s ray gate=some (.error 2))/\(VT n->C7 F (cv n) s ray gate=if Vx s ray gate e≠0 then some (.error (Vx s ray gate e)) else some (.ok (⟨s,(s.Rays.length:Int)*s.Site.Gates,[],[]⟩,0))) /\
   (¬VF n->C8 F (cv n) s ray gate=some (.error 2))/\(VF n->C8 F (cv n) s ray gate=if Vx s ray gate e≠0 then some (.error (Vx s ray gate e)) else some (.ok (⟨s,(s.Rays.length:Int)*s.Site.Gates,[],[]⟩,0))):=by
 have s1:=Yw 300 F n (by omega) (by omega);have s2:=Wt 300 F n (by omega) (by omega);have hc:cnt 300 n<=300:=by unfold cnt;omega
 obtain ⟨d1,d2⟩:=A1o F n (by omega) (by omega);obtain ⟨sb,t1,⟨c,c1,c2,c3,c4⟩,v,v1,v2,v3,v4⟩:=A5p (F:=F) (n:=n) (by omega) (by omega);obtain ⟨e,he⟩:=A3j (F:=F) (s:=s);have p1:C5 F s=some e:=by rw [A22 F hF s (by omega),he]
 have p2:Gz F s=some e:=by rw [A74 F hF s (by omega),he]
 have hgt:e=0->(s.Rays.length:Int)=4*s.Site.Rose/\1<=s.Site.Gates/\s.Site.Gates<=200:=by
  rintro rfl;have h:=he;unfold Q7 at h;obtain ⟨e',he'⟩:=Qm F s.Site;rw [he',sbd] at h;have h0:e'=0:=by
   by_cases c:e'≠0
   ·rw [if_pos c] at h;exact Option.some.inj h
   ·omega
  have g2:=Tj F s.Site (by rw [he',h0]);rw [if_neg (by omega)] at h
  split at h
  ·cases h
  ·split at h
   ·cases h
   ·rename_i hr
    exact ⟨by omega,g2⟩
 refine ⟨e,he,λb=>?_,?_,?_,?_,?_⟩
 ·unfold Eg;rw [show E0 F n 300=_ from s2,sbd,An (dF (by omega)),d1,sbd,An (dF (by omega))]
  cases b
  ·rw [gdF (g:=false==true&&true) rfl,sbd,gdT (g:=(!false)==true&&((bif false then (!default) else false)==false&&true)) rfl,v1,sbd];constructor
   ·rintro (⟨h,-⟩|⟨-,h⟩)
    ·cases h
    ·have:v=false:=by
       cases hv:v;· rfl
       ·exact absurd (v2.1 hv) h
     rw [this,Az (c:=bif (bif false then (!default) else false) then true else (bif (!false) then (!false) else false)) rfl]
   ·rintro (⟨h,-⟩|⟨-,h⟩)
    ·cases h
    ·rw [v2.2 h,An (c:=bif (bif false then (!default) else false) then true else (bif (!false) then (!true) else false)) rfl,p2,sbd];exact A4d hX hgt
  ·rw [gdT (g:=true==true&&true) rfl,c1,sbd];constructor
   ·rintro (⟨-,h⟩|⟨h,-⟩)
    ·have:c=false:=by
       cases hv:c;· rfl
       ·exact absurd (c2.1 hv) h
     rw [this,gdF (g:=(!true)==true&&((bif true then (!false) else false)==false&&true)) rfl,sbd,Az (c:=bif (bif true then (!false) else false) then true else (bif (!true) then (!default) else false)) rfl]
    ·cases h
   ·rintro (⟨-,h⟩|⟨h,-⟩)
    ·rw [c2.2 h,gdF (g:=(!true)==true&&((bif true then (!true) else false)==false&&true)) rfl,sbd,An (c:=bif (bif true then (!true) else false) then true else (bif (!true) then (!default) else false)) rfl,p2,sbd];exact A4d hX hgt
    ·cases h
 ·intro h;unfold C7;rw [show Bp F (cv n) 300=_ from s1,sbd,An (dF (by omega)),d2,sbd,An (dF (by omega))]
  cases hi:sift_isCondition (cv n)
  ·rw [gdF (g:=(!false)==false&&true) rfl,sbd,Az (c:=bif (!false) then true else (!default)) rfl]
  ·have:sb=false:=by
    rw [c3 hi];cases hv:c
    ·rfl
    ·exact absurd (c2.1 hv) h
   rw [gdT (g:=(!true)==false&&true) rfl,t1,sbd,this,Az (c:=bif (!true) then true else (!false)) rfl]
 ·intro h;have hi:sift_isCondition (cv n)=true:=Wn.2 (by rw [Wi];exact h.op);unfold C7;rw [show Bp F (cv n) 300=_ from s1,sbd,An (dF (by omega)),d2,sbd,An (dF (by omega)),hi,gdT (g:=(!true)==false&&true) rfl,t1,sbd,c3 hi,c2.2 h,An (c:=bif (!true) then true else (!true)) rfl,p1,sbd];exact A26 hX hgt
 ·intro h;unfold C8;rw [show Bp F (cv n) 300=_ from s1,sbd,An (dF (by omega)),d2,sbd,An (dF (by omega))]
  cases hi:sift_isValue (cv n)
  ·rw [gdF (g:=(!false)==false&&true) rfl,sbd,Az (c:=bif (!false) then true else (!default)) rfl]
  ·have:sb=false:=by
    rw [v3 hi];cases hv:v
    ·rfl
    ·exact absurd (v2.1 hv) h
   rw [gdT (g:=(!true)==false&&true) rfl,t1,sbd,this,Az (c:=bif (!true) then true else (!false)) rfl]
 ·intro h;have hi:sift_isValue (cv n)=true:=Wo.2 (by rw [Wi];exact h.op);unfold C8;rw [show Bp F (cv n) 300=_ from s1,sbd,An (dF (by omega)),d2,sbd,An (dF (by omega)),hi,gdT (g:=(!true)==false&&true) rfl,t1,sbd,v3 hi,v2.2 h,An (c:=bif (!true) then true else (!true)) rfl,p1,sbd];exact A26 hX hgt
end
section
variable {n:zE} {s:zG} {ray gate:Int} {F:Nat}
theorem A7b {e:Int} (h:Vx s ray gate e=0):e=0/\0<=ray/\ray<s.Rays.length/\0<=gate/\gate<s.Site.Gates:=by
 unfold Vx at h
 by_cases h0:e≠0
 ·rw [if_pos h0] at h;exact absurd h h0
 ·rw [if_neg h0] at h
  by_cases c:0<=ray/\ray<s.Rays.length/\0<=gate/\gate<s.Site.Gates
  ·exact ⟨by omega,c⟩
  ·rw [if_neg c] at h;cases h
theorem A4h {e:Int} (h:e≠0) {y:zA} (h1:C7 F y s ray gate=some (.error e)) (h2:Eg F n true s ray gate=some e):Mb F y s ray gate=some (0,e)/\My F n s ray gate=some (0,e):=by
 constructor
 ·unfold Mb exc;rw [h1,sbd];dsimp only;rw [Az (neT h)]
 ·unfold My;rw [h2,sbd,Az (neT h)]
theorem A4m {e:Int} (h:e≠0) {y:zA} (h1:C8 F y s ray gate=some (.error e)) (h2:Eg F n false s ray gate=some e):Ls F y s ray gate=some (⟨0,0⟩,false,e)/\Lr F n s ray gate=some (⟨0,0⟩,false,e):=by
 constructor
 ·unfold Ls exc;rw [h1,sbd];dsimp only;rw [Az (neT h)]
 ·unfold Lr;rw [h2,sbd,Az (neT h)]
theorem A7y (hn:nds n<=400) (hF:4000<=F) (hX:s.Rays.length<=16) (hN:(∀l∈s.Rays,l.length<=1000)->(s.Rays.map (·.length)).sum<=60) :
  (∃x e,Mb F (cv n) s ray gate=some (x,e)/\My F n s ray gate=some (x,e)) /\
  (∃x b e,Ls F (cv n) s ray gate=some (x,b,e)/\Lr F n s ray gate=some (x,b,e)):=by
 by_cases h9:nds n<=300
 ·by_cases h24:dpt n<=12
  ·obtain ⟨e,he,ha,a1,a2,b1,b2⟩:=A62 (n:=n) (s:=s) (ray:=ray) (gate:=gate) (F:=F) h9 h24 (by omega) hX;have pc:C5 F s=some e:=by rw [A22 F (by omega) s (by omega),he]
   have ok:Vx s ray gate e=0->∃a i:Nat,ray=a/\gate=i/\a<s.Rays.length/\i<s.Site.Gates.toNat/\VSw s s.Rays.length s.Site.Gates.toNat/\C5 F s=some 0:=by
    intro h;obtain ⟨h0,r1,r2,r3,r4⟩:=A7b h;subst h0;obtain ⟨v,-,-⟩:=A7t he hX hN;exact ⟨ray.toNat,gate.toNat,by omega,by omega,by omega,by omega,v,pc⟩
   constructor
   ·by_cases hv:VT n
    ·have hk:=a2 hv;have hr:=(ha true).2 (.inl ⟨rfl,hv⟩)
     by_cases h0:Vx s ray gate e=0
     ·obtain ⟨a,i,rfl,rfl,ha',hi',v,pc0⟩:=ok h0;obtain ⟨t,ht,rfl⟩:=hv;obtain ⟨z1,z2⟩:=A4e t;have q1:=A7u v.sw pc0 ht (by omega) (by omega) hF (a:=(a:Int)) (i:=(i:Int)) (by omega) (by omega);have q2:=(A2j v t F (by omega) (by omega)).1 ht;rw [←Yz] at q1;refine ⟨_,0,q1,?_⟩;unfold My;rw [hr,sbd,h0,An (neF rfl),q2,sbd,gg ha' hi',Int.natCast_add,Int.natCast_mul]
     ·rw [if_pos h0] at hk;obtain ⟨u1,u2⟩:=A4h h0 hk hr;exact ⟨_,_,u1,u2⟩
    ·obtain ⟨u1,u2⟩:=A4h (by decide) (a1 hv) ((ha true).1 (.inl ⟨rfl,hv⟩));exact ⟨_,_,u1,u2⟩
   ·by_cases hv:VF n
    ·have hk:=b2 hv;have hr:=(ha false).2 (.inr ⟨rfl,hv⟩)
     by_cases h0:Vx s ray gate e=0
     ·obtain ⟨a,i,rfl,rfl,ha',hi',v,pc0⟩:=ok h0;obtain ⟨t,ht,rfl⟩:=hv;obtain ⟨z1,z2⟩:=A4e t;have q1:=A5y v.sw pc0 ht (by omega) (by omega) hF (a:=(a:Int)) (i:=(i:Int)) (by omega) (by omega);have q2:=(A2j v t F (by omega) (by omega)).2 ht;rw [←Yz] at q1;refine ⟨_,_,0,q1,?_⟩;unfold Lr;rw [hr,sbd,h0,An (neF rfl),q2,sbd,gg ha' hi',Int.natCast_add,Int.natCast_mul];rfl
     ·rw [if_pos h0] at hk;obtain ⟨u1,u2⟩:=A4m h0 hk hr;exact ⟨_,_,_,u1,u2⟩
    ·obtain ⟨u1,u2⟩:=A4m (by decide) (b1 hv) ((ha false).1 (.inr ⟨rfl,hv⟩));exact ⟨_,_,_,u1,u2⟩
  ·obtain ⟨x1,x2,x3⟩:=A07 (n:=n) (s:=s) (ray:=ray) (gate:=gate) (F:=F) h9 (by omega) h24 true;obtain ⟨y1,-,-⟩:=A07 (n:=n) (s:=s) (ray:=ray) (gate:=gate) (F:=F) h9 (by omega) h24 false;obtain ⟨u1,u2⟩:=A4h (by decide) x2 x1;obtain ⟨w1,w2⟩:=A4m (by decide) x3 y1;exact ⟨⟨_,_,u1,u2⟩,_,_,_,w1,w2⟩
 ·obtain ⟨x1,x2,x3⟩:=A08 (n:=n) (s:=s) (ray:=ray) (gate:=gate) (F:=F) h9 (by omega) (by omega) true;obtain ⟨y1,-,-⟩:=A08 (n:=n) (s:=s) (ray:=ray) (gate:=gate) (F:=F) h9 (by omega) (by omega) false;obtain ⟨u1,u2⟩:=A4h (by decide) x2 x1;obtain ⟨w1,w2⟩:=A4m (by decide) x3 y1;exact ⟨⟨_,_,u1,u2⟩,_,_,_,w1,w2⟩
end
theorem A0r (n:zE) (s:zG) (ray gate:Int) (hl:s.Rays.length<=maxLen):Kn (s.Rays.length+4000) n s ray gate=some true:=by
 generalize hF:s.Rays.length+4000=F;have hwk:N5 F=some true:=by rw [←hF];exact A5w _
 have e1:=Wt 400 F n (by omega) (by omega);obtain ⟨b,b1,b2⟩:=A7i s hl (F:=F) (by omega);unfold Kn;rw [show E0 F n 400=_ from e1,sbd]
 by_cases h1:60<cnt 400 n/\cnt 400 n<=300\/400<cnt 400 n
 ·have hc:(bif (bif (decide ((cnt 400 n:Int)>60)) then (decide ((cnt 400 n:Int)<=300)) else false) then true else (decide ((cnt 400 n:Int)>400)))=true:=by
   rcases h1 with ⟨h1,h2⟩|h1
   ·rw [dT (show (cnt 400 n:Int)>60 by omega),dT (show (cnt 400 n:Int)<=300 by omega)];rfl
   ·rw [dT (show (cnt 400 n:Int)>60 by omega),dF (show ¬(cnt 400 n:Int)<=300 by omega),dT (show (cnt 400 n:Int)>400 by omega)];rfl
  rw [hc,gdF (g:=(true==false&&true)) rfl,sbd,Az (c:=bif true then true else (!default)) rfl,hwk];rfl
 ·have hc:(bif (bif (decide ((cnt 400 n:Int)>60)) then (decide ((cnt 400 n:Int)<=300)) else false) then true else (decide ((cnt 400 n:Int)>400)))=false:=by
   by_cases h2:60<cnt 400 n
   ·rw [dT (show (cnt 400 n:Int)>60 by omega),dF (show ¬(cnt 400 n:Int)<=300 by omega),dF (show ¬(cnt 400 n:Int)>400 by omega)];rfl
   ·rw [dF (show ¬(cnt 400 n:Int)>60 by omega),dF (show ¬(cnt 400 n:Int)>400 by omega)];rfl
  rw [hc,gdT (g:=(false==false&&true)) rfl,b1,sbd]
  cases b
  ·rw [Az (c:=bif false then true else (!false)) rfl,hwk];rfl
  ·obtain ⟨h3,h4⟩:=b2 rfl;have hn:nds n<=400:=by unfold cnt at h1;omega
   obtain ⟨⟨x,e,t1,t2⟩,y,c,e',v1,v2⟩:=A7y (n:=n) (s:=s) (ray:=ray) (gate:=gate) (F:=F) hn (by omega) h3 h4;have hnode:=A8i F n (by omega) (by omega);rw [An (c:=bif false then true else (!true)) rfl,hnode,sbd,t1,sbd,t2,sbd];dsimp only;rw [An (A14 (neF rfl) (neF rfl)),sbd,v1,sbd,v2,sbd];dsimp only;have hb:(bif (bif (((y.Lo:Int)==y.Lo)&&(((y.Hi:Int)==y.Hi)&&true)) then (c==c) else false) then (e'==e') else false)=true:=by simp
   rw [hb,gdT (g:=(true==true&&true)) rfl,hwk];rfl
end Go.Proofs.YtkjnafecmjakcaaGreatDoor
