import Derived.Test.YtkjnafecmjakcaaGreatDoorS10XD
import Derived.Lib.DecodeN
set_option linter.unusedVariables false
set_option linter.unusedSimpArgs false
set_option linter.unusedSectionVars false
namespace Go.Proofs.YtkjnafecmjakcaaGreatDoor
open Go Go.RowKit Go.Eng
set_option maxRecDepth 10000
variable {β α:Type} {x g r v b k:Int} {f:Int->Int} {d d':zH} {y:zC} {p u:zA} {l:List Int} {i m n a F R:Nat} {self_:zA->Option Bool} {s:zF} {S:Am} {V:Int->zL} {row:List zD}
theorem ckb {f:Int->Option β} (h:-9000000000000000000<=x/\x<=9000000000000000000):(ck x).bind f=f x:=by
 unfold ck;rw [if_pos (by omega)];rfl
theorem gdT {g:Bool} {o:Option α} {d:α} (h:g=true):gd g o d=o:=by subst h;rfl
theorem gdF {g:Bool} {o:Option α} {d:α} (h:g=false):gd g o d=some d:=by subst h;rfl
theorem At {c:Bool} {x y:α} (h:c=true):(bif c then x else y)=x:=by rw [h];rfl
theorem Ag {c:Bool} {x y:α} (h:c=false):(bif c then x else y)=y:=by rw [h];rfl
theorem sbd {x:α} {f:α->Option β}:(some x).bind f=f x:=rfl
theorem dT {p:Prop} [Decidable p] (h:p):decide p=true:=decide_eq_true h
theorem dF {p:Prop} [Decidable p] (h:¬p):decide p=false:=decide_eq_false h
theorem C5 {l:List α} {i:Int} {f:α->Option β} (n:Nat) (x:α) (hi:i=(n:Int)) (h:l[n]? = some x):(getI l i).bind f=f x:=by
 subst hi;unfold getI;rw [if_pos (by omega),show ((n:Int)).toNat=n by omega,h];rfl
theorem Tr {x:α} {l:List α} {f:α->Option β}:(getI (x::l) 0).bind f=f x:=C5 0 x rfl rfl
theorem Zu {x y:α} {l:List α} {f:α->Option β}:(getI (x::y::l) 1).bind f=f y:=C5 1 y rfl rfl
inductive T where
 | leaf (op v:Int)
 | un (op r g:Int) (a:T)
 | bin (op:Int) (a b:T)
 deriving DecidableEq,Inhabited
variable {t:T} {L:List (ByteArray×T)}
def T.op:T->Int
 | .leaf op _=>op
 | .un op _ _ _=>op
 | .bin op _ _=>op
def T.node:T->zA
 | .leaf op v=>⟨op,v,0,0,[]⟩
 | .un op r g a=>⟨op,0,r,g,[a.node]⟩
 | .bin op a b=>⟨op,0,0,0,[a.node,b.node]⟩
def T.size:T->Nat
 | .leaf _ _=>1
 | .un _ _ _ a=>1+a.size
 | .bin _ a b=>1+a.size+b.size
def T.depth:T->Nat
 | .leaf _ _=>1
 | .un _ _ _ a=>1+a.depth
 | .bin _ a b=>1+max a.depth b.depth
theorem B1r (t:T):t.node.Op=t.op:=by cases t<;>rfl
def okT:Bool->T->Prop
 | true,.leaf op v=>(op=1\/op=2)/\v=0
 | false,.leaf op v=>(op=14/\0<=v/\v<=1000000000)\/(15<=op/\op<=24/\v=0)
 | true,.un op r g a=>((op=3/\r=0/\g=0)\/((op=6\/op=7)/\0<=r/\r<=3/\0<=g/\g<=3))/\okT true a
 | false,.un op r g a=>(op=25/\0<=r/\r<=3/\0<=g/\g<=3)/\okT true a
 | true,.bin op a b=>((op=4\/op=5)/\okT true a/\okT true b)\/(8<=op/\op<=13/\okT false a/\okT false b)
 | false,.bin op a b=>(op=26\/op=27)/\okT false a/\okT false b/\b.op<26
theorem okT.kind:∀{t:T} {k:Bool},okT k t->sift_isCondition t.node=k/\sift_isValue t.node=!k:=by
 intro t k h;have key:∀op:Int,(k=true->1<=op/\op<=13)->(k=false->14<=op/\op<=27)->t.node.Op=op->sift_isCondition t.node=k/\sift_isValue t.node=!k:=by
  intro op d f i;unfold sift_isCondition sift_isValue;rw [i]
  cases k
  ·obtain ⟨a,b⟩:=f rfl;refine ⟨?_,?_⟩
   ·by_cases c:op>=1
    ·rw [At (dT c)];exact dF (by omega)
    ·rw [Ag (dF c)]
   ·rw [At (dT (by omega))];exact dT (by omega)
  ·obtain ⟨a,b⟩:=d rfl;refine ⟨?_,?_⟩
   ·rw [At (dT (by omega))];exact dT (by omega)
   ·rw [Ag (dF (by omega))];rfl
 cases t with
 | leaf op v=>cases k<;>simp only [okT] at h<;>exact key op (λe=>by cases e<;>omega) (λe=>by cases e<;>omega) rfl
 | un op r g a=>cases k<;>simp only [okT] at h<;>exact key op (λe=>by cases e<;>omega) (λe=>by cases e<;>omega) rfl
 | bin op a b=>cases k<;>simp only [okT] at h<;>exact key op (λe=>by cases e<;>omega) (λe=>by cases e<;>omega) rfl
theorem T.size_pos (t:T):1<=t.size:=by cases t<;>simp only [T.size]<;>omega
theorem Zp (F:Nat) (p:zA) (m:Int):Ct (F+1) p m=Cg (Ct F) p m F 0 1:=rfl
theorem B4v {self_:zA->Int->Option Int} {m y:Int} :Cg self_ p m (n+1) x y=Fj self_ p m (Cg self_ p m n) x y:=rfl
theorem A5d {self_:zA->Int->Option Int} {m y z:Int} (b:x=(i:Int)) (hi:p.Args[i]? = some u) (g:p.Args.length<=2) (hm:y<=m) (c:0<=y/\m<=1000000) (d:self_ u (m-y)=some z) (e:0<=z/\z<=1000000) :
  Cg self_ p m (n+1) x y=Cg self_ p m n (x+1) (y+z):=by
 have f:=(List.getElem?_eq_some_iff.1 hi).1;rw [B4v,Fj,At (dT (by omega)),C5 i u b hi,Ag (dF (by omega)),ckb (by omega),d,sbd,ckb (by omega),ckb (by omega)]
theorem A38 {self_:zA->Int->Option Int} {m y:Int} (b:(p.Args.length:Int)<=x):Cg self_ p m (n+1) x y=some y:=by
 rw [B4v,Fj,Ag (dF (by omega))];rfl
theorem A5f:∀(t:T) (F:Nat) (m:Int),t.size+4<=F->(t.size:Int)<=m->m<=1000000->Ct F t.node m=some (t.size:Int):=by
 intro t
 induction t with
 | leaf op v =>
  intro F m hF c d;obtain ⟨F,rfl⟩:∃G,F=G+2:=⟨F-2,by simp only [T.size] at hF;omega⟩;rw [Zp];exact A38 (Int.le_refl _)
 | un op r g a ih =>
  intro F m hF c d;simp only [T.size] at hF c;have:=a.size_pos;obtain ⟨F,rfl⟩:∃G,F=G+3:=⟨F-3,by omega⟩;rw [Zp];rw [A5d (p:=(T.un op r g a).node) (x:=0) (y:=1) (i:=0) (u:=a.node) rfl rfl (by simp [T.node]) (by omega) (by omega) (ih (F+2) (m-1) (by omega) (by omega) (by omega)) (by omega),A38 (by simp [T.node])];simp only [T.size];congr 1
 | bin op a b iha ihb =>
  intro F m hF c d;simp only [T.size] at hF c;have:=a.size_pos;have:=b.size_pos;obtain ⟨F,rfl⟩:∃G,F=G+4:=⟨F-4,by omega⟩;rw [Zp];rw [A5d (p:=(T.bin op a b).node) (x:=0) (y:=1) (i:=0) (u:=a.node) rfl rfl (by simp [T.node]) (by omega) (by omega) (iha (F+3) (m-1) (by omega) (by omega) (by omega)) (by omega),
   A5d (p:=(T.bin op a b).node) (x:=0+1) (i:=1) (u:=b.node) rfl rfl (by simp [T.node]) (by omega) (by omega) (ihb (F+3) (m-(1+a.size)) (by omega) (by omega) (by omega)) (by omega),A38 (by simp [T.node])]
  simp only [T.size];congr 1
theorem A5h (F:Nat) (p:zA):Fg (F+1) p=E9 (Fg F) p F 0 0:=rfl
theorem dpL {self_:zA->Option Int} {y:Int} :E9 self_ p (n+1) x y=Jn self_ p (E9 self_ p n) x y:=rfl
theorem A90 {self_:zA->Option Int} {y z:Int} (b:y=(i:Int)) (hi:p.Args[i]? = some u) (e:p.Args.length<=2) (c:self_ u=some z) :
  E9 self_ p (n+1) x y=E9 self_ p n (if z>x then z else x) (y+1):=by
 have d:=(List.getElem?_eq_some_iff.1 hi).1;rw [dpL,Jn,At (dT (by omega)),C5 i u b hi,c,sbd,ckb (by omega)]
theorem A5i {self_:zA->Option Int} {y:Int} (b:(p.Args.length:Int)<=y) (c:-9000000000<=x/\x<=9000000000):E9 self_ p (n+1) x y=some (x+1):=by
 rw [dpL,Jn,Ag (dF (by omega)),Qx,ckb (by omega)]
theorem B1a:∀(t:T) (F:Nat),t.depth+4<=F->t.depth<=1000000->Fg F t.node=some (t.depth:Int):=by
 intro t
 induction t with
 | leaf op v =>
  intro F hF c;obtain ⟨F,rfl⟩:∃G,F=G+2:=⟨F-2,by simp only [T.depth] at hF;omega⟩;rw [A5h];exact A5i (Int.le_refl _) (by omega)
 | un op r g a ih =>
  intro F hF c;simp only [T.depth] at hF c;obtain ⟨F,rfl⟩:∃G,F=G+3:=⟨F-3,by omega⟩;rw [A5h];rw [A90 (p:=(T.un op r g a).node) (y:=0) (i:=0) (u:=a.node) rfl rfl (by simp [T.node]) (ih (F+2) (by omega) (by omega)),A5i (by simp [T.node]) (by split<;>omega)];simp only [T.depth];congr 1;split<;>omega
 | bin op a b iha ihb =>
  intro F hF c;simp only [T.depth] at hF c;obtain ⟨F,rfl⟩:∃G,F=G+4:=⟨F-4,by omega⟩;rw [A5h];rw [A90 (p:=(T.bin op a b).node) (y:=0) (i:=0) (u:=a.node) rfl rfl (by simp [T.node]) (iha (F+3) (by omega) (by omega)),A90 (p:=(T.bin op a b).node) (y:=0+1) (i:=1) (u:=b.node) rfl rfl (by simp [T.node]) (ihb (F+3) (by omega) (by omega)),A5i (by simp [T.node]) (by split<;>split<;>omega)];simp only [T.depth];congr 1;split<;>split<;>omega
structure StL (self_:zA->Option Bool) (p:zA) (k:Bool) (L:Nat->Int->Option Bool):Prop where
 go:∀n (i:Nat) u,p.Args[i]? = some u->p.Args.length<=2->sift_isCondition u=k->sift_isValue u=!k->self_ u=some true->L (n+1) (i:Int)=L n ((i:Int)+1)
 fin:∀n x,(p.Args.length:Int)<=x->p.Op<26->L (n+1) x=some true
 fin2:∀n x u,(p.Args.length:Int)<=x->26<=p.Op->p.Args[1]? = some u->u.Op<26->L (n+1) x=some true
theorem B69:StL self_ p true (Kv self_ p):=by
 refine ⟨λn i u hi l d m e=>?_,λn x f ho=>?_,λn x u f ho j b=>?_⟩
 ·have k:=(List.getElem?_eq_some_iff.1 hi).1;show Ch self_ p _ _=_;rw [Ch,At (dT (by omega)),C5 i u rfl hi,d,gdT (g:=(!true)==false&&true) rfl,e,sbd,Ag (c:=bif (!true) then true else (!true)) rfl,ckb (by omega)]
 ·show Ch self_ p _ _=_;rw [Ch,Ag (dF (by omega)),Nq,At (dT ho)]
 ·show Ch self_ p _ _=_;rw [Ch,Ag (dF (by omega)),Nq,Ag (dF (by omega)),C5 (i:=1) 1 u rfl j,dT b]
theorem B6a:StL self_ p true (Kw self_ p):=by
 refine ⟨λn i u hi l d m e=>?_,λn x f ho=>?_,λn x u f ho j b=>?_⟩
 ·have k:=(List.getElem?_eq_some_iff.1 hi).1;show Ci self_ p _ _=_;rw [Ci,At (dT (by omega)),C5 i u rfl hi,d,gdT (g:=(!true)==false&&true) rfl,e,sbd,Ag (c:=bif (!true) then true else (!true)) rfl,ckb (by omega)]
 ·show Ci self_ p _ _=_;rw [Ci,Ag (dF (by omega)),Ns,At (dT ho)]
 ·show Ci self_ p _ _=_;rw [Ci,Ag (dF (by omega)),Ns,Ag (dF (by omega)),C5 (i:=1) 1 u rfl j,dT b]
theorem B6b:StL self_ p true (Kx self_ p):=by
 refine ⟨λn i u hi l d m e=>?_,λn x f ho=>?_,λn x u f ho j b=>?_⟩
 ·have k:=(List.getElem?_eq_some_iff.1 hi).1;show Cj self_ p _ _=_;rw [Cj,At (dT (by omega)),C5 i u rfl hi,d,gdT (g:=(!true)==false&&true) rfl,e,sbd,Ag (c:=bif (!true) then true else (!true)) rfl,ckb (by omega)]
 ·show Cj self_ p _ _=_;rw [Cj,Ag (dF (by omega)),Nt,At (dT ho)]
 ·show Cj self_ p _ _=_;rw [Cj,Ag (dF (by omega)),Nt,Ag (dF (by omega)),C5 (i:=1) 1 u rfl j,dT b]
theorem B6c:StL self_ p false (Ky self_ p):=by
 refine ⟨λn i u hi l m d e=>?_,λn x f ho=>?_,λn x u f ho j b=>?_⟩
 ·have k:=(List.getElem?_eq_some_iff.1 hi).1;show Ck self_ p _ _=_;rw [Ck,At (dT (by omega)),C5 i u rfl hi,d,gdT (g:=(!!false)==false&&true) rfl,e,sbd,Ag (c:=bif (!!false) then true else (!true)) rfl,ckb (by omega)]
 ·show Ck self_ p _ _=_;rw [Ck,Ag (dF (by omega)),Nu,At (dT ho)]
 ·show Ck self_ p _ _=_;rw [Ck,Ag (dF (by omega)),Nu,Ag (dF (by omega)),C5 (i:=1) 1 u rfl j,dT b]
theorem A7u (b:0<=g) (c:0<=r) (hv:0<=v):¬(if g<if r<v then r else v then g else if r<v then r else v)<0:=by split<;>split<;>omega
theorem A7t {m:Int} (b:g<=m) (c:r<=m):¬(if g>r then g else r)>m:=by split<;>omega
theorem eqT {a:Int} (h:a=b):(a==b)=true:=by subst h;exact beq_self_eq_true _
theorem eqF {a:Int} (h:a≠b):(a==b)=false:=beq_eq_false_iff_ne.2 h
theorem neF {a:Int} (h:a=b):(a != b)=false:=by subst h;simp
theorem neT {a:Int} (h:a≠b):(a != b)=true:=by simp [h]
theorem A32:∀(t:T) (k:Bool) (F:Nat),okT k t->t.size+5<=F->Bs F t.node=some true:=by
 intro t
 induction t with
 | leaf op v =>
  intro k F h hF;obtain ⟨F,rfl⟩:∃G,F=G+2:=⟨F-2,by simp only [T.size] at hF;omega⟩;have p:=h.kind;show E8 (F+1) (Bs (F+1)) ⟨op,v,0,0,[]⟩=_;have j:op≠3/\op≠4/\op≠5/\op≠6/\op≠7/\op≠25/\op≠26/\op≠27/\¬(8<=op/\op<=13)/\op<26/\0<=v/\(op=14->v<=1000000000)/\(op≠14->v=0):=by
   cases k<;>simp only [okT] at h<;>refine ⟨?_,?_,?_,?_,?_,?_,?_,?_,?_,?_,?_,?_,?_⟩<;>omega
  obtain ⟨a1,a2,a3,a4,a5,a6,a7,a8,a9,a10,a11,a12,a13⟩:=j;have e8:(bif decide (op>=8) then decide (op<=13) else false)=false:=by
   by_cases s:op>=8
   ·rw [At (dT s)];exact dF (by omega)
   ·rw [Ag (dF s)]
  have l:(([]:List zA).length:Int)=0:=rfl;unfold E8;dsimp only;rw [Ag (eqF a1),eqF a2,eqF a3,Ag (c:=false) rfl,Ag (c:=false) rfl,eqF a4,eqF a5,eqF a6,Ag (c:=false) rfl,Ag (c:=false) rfl,Ag (c:=false) rfl,e8,eqF a7,eqF a8,Ag (c:=false) rfl,Ag (c:=false) rfl,Ag (c:=false) rfl]
  by_cases f:op=14
  ·rw [At (eqT f),l,neF rfl,Ag (c:=false) rfl,dF (A7u (Int.le_refl 0) (Int.le_refl 0) a11),Ag (c:=false) rfl,dF (show ¬v>1000000000 by have:=a12 f;omega),Ag (c:=false) rfl,dF (A7t (Int.le_refl 0) (Int.le_refl 0)),Ag (c:=false) rfl];show Ea _ _ _ _=_;rw [Ea,Ag (dF (by simp)),R0,At (dT a10)]
  ·have hv:=a13 f;subst hv;rw [Ag (eqF f)];have e9:(bif (!(sift_isCondition ⟨op,0,0,0,[]⟩)) then (!(sift_isValue ⟨op,0,0,0,[]⟩)) else false)=false:=by
    have n:sift_isCondition ⟨op,0,0,0,[]⟩=k:=p.1;have o:sift_isValue ⟨op,0,0,0,[]⟩=!k:=p.2;rw [n,o];cases k<;>rfl
   rw [Ag e9,l,neF rfl,Ag (c:=false) rfl,dF (A7u (Int.le_refl 0) (Int.le_refl 0) (Int.le_refl 0)),Ag (c:=false) rfl,dF (show ¬(0:Int)>0 by omega),Ag (c:=false) rfl,dF (A7t (Int.le_refl 0) (Int.le_refl 0)),Ag (c:=false) rfl];show Eb _ _ _ _=_;rw [Eb,Ag (dF (by simp)),Px,At (dT a10)]
 | un op r g a ih =>
  intro k F h hF;simp only [T.size] at hF;have:=a.size_pos;obtain ⟨F,rfl⟩:∃G,F=G+3:=⟨F-3,by omega⟩;show E8 (F+2) (Bs (F+2)) ⟨op,0,r,g,[a.node]⟩=_;have m:okT true a:=by cases k<;>simp only [okT] at h<;>exact h.2
  have hs:=ih true (F+2) m (by omega);have p:=m.kind;have l:(([a.node]:List zA).length:Int)=1:=rfl;have fin:∀(L:Nat->Int->Option Bool),StL (Bs (F+2)) ⟨op,0,r,g,[a.node]⟩ true L->op<26->L (F+2) 0=some true:=λL d ho=>by
   have n:=d.go (F+1) 0 a.node rfl (by simp) p.1 p.2 hs;have o:=d.fin F ((0:Nat)+1:Int) (by simp) ho;exact n.trans o
  unfold E8;dsimp only
  by_cases j:op=3
  ·have u:r=0/\g=0:=by cases k<;>simp only [okT] at h<;>omega
   obtain ⟨rfl,rfl⟩:=u;rw [At (eqT j),l,neF rfl,Ag (c:=false) rfl,dF (A7u (Int.le_refl 0) (Int.le_refl 0) (Int.le_refl 0)),Ag (c:=false) rfl,dF (show ¬(0:Int)>0 by omega),Ag (c:=false) rfl,dF (A7t (Int.le_refl 0) (Int.le_refl 0)),Ag (c:=false) rfl];exact fin _ B69 (by omega)
  ·have e:(op=6\/op=7\/op=25)/\0<=r/\r<=3/\0<=g/\g<=3:=by cases k<;>simp only [okT] at h<;>omega
   obtain ⟨e,r1,r2,g1,g2⟩:=e;have e6:(bif (bif (op==6) then true else (op==7)) then true else (op==25))=true:=by
    rcases e with rfl|rfl|rfl<;>rfl
   rw [Ag (eqF j),eqF (show op≠4 by omega),eqF (show op≠5 by omega),Ag (c:=false) rfl,Ag (c:=false) rfl,At e6,l,neF rfl,Ag (c:=false) rfl,dF (A7u g1 r1 (Int.le_refl 0)),Ag (c:=false) rfl,dF (show ¬(0:Int)>0 by omega),Ag (c:=false) rfl,dF (A7t g2 r2),Ag (c:=false) rfl];exact fin _ B6b (by omega)
 | bin op a b iha ihb =>
  intro k F h hF;simp only [T.size] at hF;have:=a.size_pos;have:=b.size_pos;obtain ⟨F,rfl⟩:∃G,F=G+4:=⟨F-4,by omega⟩;show E8 (F+3) (Bs (F+3)) ⟨op,0,0,0,[a.node,b.node]⟩=_;have l:(([a.node,b.node]:List zA).length:Int)=2:=rfl;have fin:∀(q:Bool) (L:Nat->Int->Option Bool),StL (Bs (F+3)) ⟨op,0,0,0,[a.node,b.node]⟩ q L->okT q a->okT q b->(26<=op->b.op<26)->L (F+3) 0=some true:=λq L d m hb ho=>by
   have n:=d.go (F+2) 0 a.node rfl (by simp) m.kind.1 m.kind.2 (iha q (F+3) m (by omega));have o:=d.go (F+1) 1 b.node rfl (by simp) hb.kind.1 hb.kind.2 (ihb q (F+3) hb (by omega));have j:L (F+1) ((1:Nat)+1:Int)=some true:=by
    by_cases s:op<26
    ·exact d.fin F _ (by simp) s
    ·exact d.fin2 F _ b.node (by simp) (by show 26<=op;omega) rfl (by rw [B1r];exact ho (by omega))
   exact n.trans (o.trans j)
  unfold E8;dsimp only;have j:op≠3:=by cases k<;>simp only [okT] at h<;>omega
  rw [Ag (eqF j)]
  by_cases x:op=4\/op=5
  ·have i:okT true a/\okT true b:=by
    cases k<;>simp only [okT] at h
    ·omega
    ·rcases h with h|h
     ·exact h.2
     ·omega
   have e4:(bif (op==4) then true else (op==5))=true:=by rcases x with rfl|rfl<;>rfl
   rw [At e4,l,neF rfl,Ag (c:=false) rfl,dF (A7u (Int.le_refl 0) (Int.le_refl 0) (Int.le_refl 0)),Ag (c:=false) rfl,dF (show ¬(0:Int)>0 by omega),Ag (c:=false) rfl,dF (A7t (Int.le_refl 0) (Int.le_refl 0)),Ag (c:=false) rfl];exact fin true _ B6a i.1 i.2 (by omega)
  ·have i:okT false a/\okT false b/\(26<=op->b.op<26)/\(8<=op/\op<=13\/op=26\/op=27):=by
    cases k<;>simp only [okT] at h
    ·exact ⟨h.2.1,h.2.2.1,λ_=>h.2.2.2,by omega⟩
    ·rcases h with h|h
     ·omega
     ·exact ⟨h.2.2.1,h.2.2.2,by omega,by omega⟩
   obtain ⟨m,hb,ho,e⟩:=i;have e8:(bif (bif (bif decide (op>=8) then decide (op<=13) else false) then true else (op==26)) then true else (op==27))=true:=by
    rcases e with ⟨n,o⟩|rfl|rfl
    ·rw [dT n,dT o];rfl
    ·rfl
    ·rfl
   rw [eqF (show op≠4 by omega),eqF (show op≠5 by omega),Ag (c:=false) rfl,Ag (c:=false) rfl,eqF (show op≠6 by omega),eqF (show op≠7 by omega),eqF (show op≠25 by omega),Ag (c:=false) rfl,Ag (c:=false) rfl,Ag (c:=false) rfl,At e8,l,neF rfl,Ag (c:=false) rfl,dF (A7u (Int.le_refl 0) (Int.le_refl 0) (Int.le_refl 0)),Ag (c:=false) rfl,dF (show ¬(0:Int)>0 by omega),Ag (c:=false) rfl,dF (A7t (Int.le_refl 0) (Int.le_refl 0)),Ag (c:=false) rfl];exact fin false _ B6c m hb ho
def tb (l:List UInt8):ByteArray:=⟨l.toArray⟩
theorem B4k (a b:List UInt8):tb a++tb b=tb (a++b):=by
 apply ByteArray.ext;show (tb a++tb b).data=_;rw [ByteArray.data_append];simp [tb]
theorem A6z (a:List UInt8):(tb a).size=a.length:=by simp [tb,ByteArray.size]
theorem B0p {a b:List UInt8} (h:tb a=tb b):a=b:=by
 have:=congrArg (λx:ByteArray=>x.data.toList) h
 simpa [tb] using this
theorem B5p (s:ByteArray):∃l,s=tb l:=⟨s.data.toList,by cases s;simp [tb]⟩
theorem Ys {a b:List UInt8} {f:ByteArray->Option β} (h:a.length+b.length<=9000000000):(Sq (tb a) (tb b)).bind f=f (tb (a++b)):=by
 unfold Sq;rw [if_pos (by rw [A6z,A6z];omega),sbd,B4k]
theorem B0e (a b:List UInt8):sEq (tb a) (tb b)=decide (a=b):=by
 unfold sEq;have e:((tb a).data.toList=(tb b).data.toList)=(a=b):=by simp [tb]
 by_cases h:a=b
 ·rw [dT h,dT (by rw [e];exact h)]
 ·rw [dF h,dF (by rw [e];exact h)]
def wd (op:Int):List UInt8:=((Bj.1[op.toNat]?).getD ⟨#[]⟩).data.toList
theorem wdb {op:Int} {f:ByteArray->Option β} (h:0<=op/\op<=27):(A3c Bj op).bind f=f (tb (wd op)):=by
 unfold A3c;have b:op.toNat<Bj.1.length:=by rw [Bj.2];omega
 rw [C5 op.toNat (Bj.1[op.toNat]) (by omega) (List.getElem?_eq_getElem b)];unfold wd;rw [List.getElem?_eq_getElem b]
 congr 1
def textT:T->List UInt8
 | .leaf op v=>if op=14 then Lib.itoa v else wd op
 | .un op r g a=>if op=3 then wd 3++(32::textT a) else wd op++(32::(Lib.itoa r++(32::(Lib.itoa g++(32::textT a)))))
 | .bin op a b=>if op<14 then 40::(textT a++(32::(wd op++(32::(textT b++[41]))))) else textT a++(32::(wd op++(32::textT b)))
theorem A0d (op:Int):(wd op).length<=6:=by
 have key:∀i:Fin 28,((Bj.1[i.val]?).getD ⟨#[]⟩).data.toList.length<=6:=by decide
 unfold wd
 by_cases h:op.toNat<28
 ·exact key ⟨op.toNat,h⟩
 ·rw [List.getElem?_eq_none (by rw [Bj.2];omega)];simp
theorem B2v:∀(k u:Nat),u<10 ^ (k+1)->Lib.nDigits u<=k+1
 | 0,u,h=>by rw [Lib.nDigits_small (by simpa using h)];omega
 | k+1,u,h=>by
  by_cases b:u<10
  ·rw [Lib.nDigits_small b];omega
  ·rw [Lib.nDigits_big b];have:=B2v k (u/10) (by rw [Nat.pow_succ] at h;omega);omega
theorem Wf (h:0<=v/\v<=1000000000):(Lib.itoa v).length<=10:=by
 obtain ⟨u,rfl⟩:∃u:Nat,v=u:=⟨v.toNat,by omega⟩;rw [Lib.itoa_nonneg,Lib.decDigits_length];exact B2v 9 u (by omega)
theorem A1x:∀(t:T) (k:Bool),okT k t->(textT t).length<=40*t.size:=by
 intro t
 induction t with
 | leaf op v =>
  intro k h;simp only [textT,T.size]
  split
  ·have:=Wf (v:=v) (by cases k<;>simp only [okT] at h<;>omega);omega
  ·have:=A0d op;omega
 | un op r g a ih =>
  intro k h;have c:okT true a:=by cases k<;>simp only [okT] at h<;>exact h.2
  have i:=ih true c;have e:0<=r/\r<=1000000000:=by cases k<;>simp only [okT] at h<;>omega
  have f:0<=g/\g<=1000000000:=by cases k<;>simp only [okT] at h<;>omega
  have:=Wf e;have:=Wf f;have:=A0d op;have:=A0d 3;simp only [textT,T.size]
  split<;>simp only [List.length_append,List.length_cons]<;>omega
 | bin op a b iha ihb =>
  intro k h;have d:(∃q,okT q a)/\∃q,okT q b:=by
   cases k<;>simp only [okT] at h
   ·exact ⟨⟨_,h.2.1⟩,⟨_,h.2.2.1⟩⟩
   ·rcases h with h|h
    ·exact ⟨⟨_,h.2.1⟩,⟨_,h.2.2⟩⟩
    ·exact ⟨⟨_,h.2.2.1⟩,⟨_,h.2.2.2⟩⟩
  obtain ⟨⟨q,c⟩,q',hb⟩:=d;have:=iha q c;have:=ihb q' hb;have:=A0d op;simp only [textT,T.size]
  split<;>simp only [List.length_append,List.length_cons,List.length_nil]<;>omega
theorem A9d {f:ByteArray->Option β} (h:0<=v/\v<=1000000000):(strconv_Itoa F v).bind f=f (tb (Lib.itoa v)):=by
 unfold strconv_Itoa;rw [if_pos (by omega),sbd];rfl
theorem A67 (F:Nat) (p:zA):Di (F+1) p=Hb F (Di F) p:=rfl
theorem B0l:(⟨#[32]⟩:ByteArray)=tb [32]:=rfl
theorem Xi:∀(t:T) (k:Bool) (F:Nat),okT k t->t.size+2<=F->t.size<=1000000->Di F t.node=some (tb (textT t)):=by
 intro t
 induction t with
 | leaf op v =>
  intro k F h hF _;obtain ⟨F,rfl⟩:∃G,F=G+1:=⟨F-1,by simp only [T.size] at hF;omega⟩;have h0:0<=op/\op<=27:=by cases k<;>simp only [okT] at h<;>omega
  rw [A67];show Hb F _ ⟨op,v,0,0,[]⟩=_;unfold Hb;dsimp only;rw [wdb h0]
  by_cases c:op=14
  ·rw [At (eqT c),A9d (by cases k<;>simp only [okT] at h<;>omega)]
   simp only [textT,if_pos c]
  ·rw [Ag (eqF c),Ag (eqF (show op≠3 by cases k<;>simp only [okT] at h<;>omega)),Ag (eqF (show (([]:List zA).length:Int)≠1 by simp)),At (eqT (show (([]:List zA).length:Int)=0 by simp))]
   simp only [textT,if_neg c]
 | un op r g a ih =>
  intro k F h hF hs;simp only [T.size] at hF hs;obtain ⟨F,rfl⟩:∃G,F=G+1:=⟨F-1,by omega⟩;have h0:0<=op/\op<=27/\op≠14:=by cases k<;>simp only [okT] at h<;>omega
  have d:okT true a:=by cases k<;>simp only [okT] at h<;>exact h.2
  have l:0<=r/\r<=1000000000:=by cases k<;>simp only [okT] at h<;>omega
  have m:0<=g/\g<=1000000000:=by cases k<;>simp only [okT] at h<;>omega
  have hi:=ih true F d (by omega) (by omega);have n:=A1x a true d;have l1:=Wf l;have l2:=Wf m;have l3:=A0d op;rw [A67];show Hb F _ ⟨op,0,r,g,[a.node]⟩=_;unfold Hb;dsimp only;rw [wdb ⟨h0.1,h0.2.1⟩,Ag (eqF h0.2.2)]
  by_cases e:op=3
  ·subst e;rw [At (eqT rfl),B0l,Ys (by simp;omega),Tr,hi,sbd,Ys (by simp;omega)];simp only [textT,if_pos,List.append_assoc,List.singleton_append]
  ·rw [Ag (eqF e),At (eqT (show (([a.node]:List zA).length:Int)=1 by simp)),B0l,Ys (by simp;omega),A9d l,Ys (by simp;omega),Ys (by simp;omega),A9d m,Ys (by simp;omega),Ys (by simp;omega),Tr,hi,sbd,Ys (by simp;omega)];simp only [textT,if_neg e,List.append_assoc,List.singleton_append,List.cons_append,List.nil_append]
 | bin op a b iha ihb =>
  intro k F h hF hs;simp only [T.size] at hF hs;obtain ⟨F,rfl⟩:∃G,F=G+1:=⟨F-1,by omega⟩;have h0:0<=op/\op<=27/\op≠14/\op≠3:=by cases k<;>simp only [okT] at h<;>omega
  have f:(∃q,okT q a)/\∃q,okT q b:=by
   cases k<;>simp only [okT] at h
   ·exact ⟨⟨_,h.2.1⟩,⟨_,h.2.2.1⟩⟩
   ·rcases h with h|h
    ·exact ⟨⟨_,h.2.1⟩,⟨_,h.2.2⟩⟩
    ·exact ⟨⟨_,h.2.2.1⟩,⟨_,h.2.2.2⟩⟩
  obtain ⟨⟨q,d⟩,q',hb⟩:=f;have i:=iha q F d (by omega) (by omega);have j:=ihb q' F hb (by omega) (by omega);have n:=A1x a q d;have o:=A1x b q' hb;have l3:=A0d op;rw [A67];show Hb F _ ⟨op,0,0,0,[a.node,b.node]⟩=_;unfold Hb;dsimp only;rw [wdb ⟨h0.1,h0.2.1⟩,Ag (eqF h0.2.2.1),Ag (eqF h0.2.2.2),Ag (eqF (show (([a.node,b.node]:List zA).length:Int)≠1 by simp)),Ag (eqF (show (([a.node,b.node]:List zA).length:Int)≠0 by simp)),
   Tr,i,sbd,B0l,Ys (by simp;omega),Ys (by simp;omega),Ys (by simp;omega),Zu,j,sbd,Ys (by simp;omega)]
  by_cases c:op<14
  ·rw [At (dT c),show (⟨#[40]⟩:ByteArray)=tb [40] from rfl,show (⟨#[41]⟩:ByteArray)=tb [41] from rfl,Ys (by simp;omega),Ys (by simp;omega)];simp only [textT,if_pos c,List.append_assoc,List.singleton_append,List.cons_append,List.nil_append]
  ·rw [Ag (dF c)];simp only [textT,if_neg c,List.append_assoc,List.singleton_append,List.cons_append,List.nil_append]
def Ut (c:UInt8):Bool:=decide (48<=c.toNat)&&decide (c.toNat<=57)
def A13 (u:List UInt8):Prop:=∀c r,u=c::r->Ut c=false
def A0e (u:List UInt8):Prop:=A13 u/\∀c r,u=32::c::r->c≠43/\c≠45
theorem Xg (r:List UInt8):A13 (32::r):=λc q h=>by cases h;rfl
theorem A5g:∀(n:Nat),∀c∈Lib.decDigits n,Ut c=true:=by
 intro n
 induction n using Nat.strongRecOn with
 | _ n ih =>
  have one:∀i:Fin 10,Ut (UInt8.ofNat (48+i.val))=true:=by decide
  intro c b;rw [Lib.decDigits] at b
  split at b
  ·rename_i h
   rw [List.mem_singleton] at b;subst b;exact one ⟨n,h⟩
  ·rcases List.mem_append.1 b with b|b
   ·exact ih (n/10) (by omega) c b
   ·rw [List.mem_singleton] at b;subst b;exact one ⟨n%10,Nat.mod_lt _ (by omega)⟩
def B0u (l:List UInt8):Nat:=l.foldl (λa c=>10*a+(c.toNat-48)) 0
theorem A6h (n:Nat):B0u (Lib.decDigits n)=n:=by
 induction n using Nat.strongRecOn with
 | _ n ih =>
  have one:∀i:Fin 10,(UInt8.ofNat (48+i.val)).toNat-48=i.val:=by decide
  rw [Lib.decDigits]
  split
  ·rename_i h
   show 10*0+((UInt8.ofNat (48+n)).toNat-48)=n;rw [one ⟨n,h⟩];show 10*0+n=n;omega
  ·have e:=ih (n/10) (by omega);unfold B0u at e ⊢;rw [List.foldl_append,e];show 10*(n/10)+((UInt8.ofNat (48+n%10)).toNat-48)=n;rw [one ⟨n%10,Nat.mod_lt _ (by omega)⟩];show 10*(n/10)+n%10=n;omega
theorem A6y {l x:List UInt8} (b:∀c∈l,Ut c=true) (e:A13 x):(l++x).takeWhile Ut=l:=by
 induction l with
 | nil =>
  cases x with
  | nil=>rfl
  | cons c r=>simp [e c r rfl]
 | cons c l ih=>simp [b c (by simp),ih (λd hd=>b d (by simp [hd]))]
theorem A5w {v':Int} {x y:List UInt8} (h0:0<=v) (f:0<=v') (c:A13 x) (d:A13 y) (h:Lib.itoa v++x=Lib.itoa v'++y):v=v'/\x=y:=by
 obtain ⟨a,rfl⟩:∃a:Nat,v=a:=⟨v.toNat,by omega⟩;obtain ⟨b,rfl⟩:∃b:Nat,v'=b:=⟨v'.toNat,by omega⟩;rw [Lib.itoa_nonneg,Lib.itoa_nonneg] at h;have e:=congrArg (List.takeWhile Ut) h;rw [A6y (A5g a) c,A6y (A5g b) d] at e;have e2:=congrArg B0u e;rw [A6h,A6h] at e2;subst e2;exact ⟨rfl,List.append_cancel_left h⟩
theorem A7n (h:0<=v):∃c r,Lib.itoa v=c::r/\Ut c=true:=by
 obtain ⟨a,rfl⟩:∃a:Nat,v=a:=⟨v.toNat,by omega⟩;rw [Lib.itoa_nonneg]
 cases hd:Lib.decDigits a with
 | nil =>
  have:=Lib.decDigits_length a;rw [hd] at this;have:=Lib.nDigits_pos a;simp at *;omega
 | cons c r=>exact ⟨c,r,rfl,A5g a c (by rw [hd];simp)⟩
def Z1:List Int:=[1,2,3,6,7,15,16,17,18,19,20,21,22,23,24,25]
def Zk:List Int:=[4,5,8,9,10,11,12,13]
theorem A1e:∀a∈Z1,∀b∈Z1,List.isPrefixOf (wd a) (wd b)=true->a=b:=by decide
theorem A1v:∀a∈Zk,∀b∈Zk,List.isPrefixOf (wd a++[32]) (wd b++[32])=true->a=b:=by decide
theorem A7i:∀a∈Z1,∃c r,wd a=c::r/\Ut c=false/\c≠40:=by
 intro a d;have key:∀a∈Z1,(match wd a with|[]=>false|c::_=>!Ut c&&decide (c≠40))=true:=by decide
 have:=key a d
 cases b:wd a with
 | nil=>rw [b] at this;cases this
 | cons c r =>
  rw [b] at this;simp at this;exact ⟨c,r,rfl,this.1,this.2⟩
theorem B2m {a:Int} {x y:List UInt8} (d:a∈Z1) (hb:b∈Z1) (h:wd a++x=wd b++y):a=b/\x=y:=by
 have c:wd a <+: wd b\/wd b <+: wd a:=List.prefix_or_prefix_of_prefix (l₃:=wd a++x) (List.prefix_append _ _) (h▸List.prefix_append _ _);have e:a=b:=by
  rcases c with c|c
  ·exact A1e a d b hb (List.isPrefixOf_iff_prefix.2 c)
  ·exact (A1e b hb a d (List.isPrefixOf_iff_prefix.2 c)).symm
 subst e;exact ⟨rfl,List.append_cancel_left h⟩
theorem B2a {a:Int} {x y:List UInt8} (d:a∈Zk) (hb:b∈Zk) (h:wd a++(32::x)=wd b++(32::y)):a=b/\x=y:=by
 have f:(wd a++[32])++x=(wd b++[32])++y:=by simpa using h
 have c:(wd a++[32]) <+: (wd b++[32])\/(wd b++[32]) <+: (wd a++[32]):=List.prefix_or_prefix_of_prefix (l₃:=(wd a++[32])++x) (List.prefix_append _ _) (f▸List.prefix_append _ _);have e:a=b:=by
  rcases c with c|c
  ·exact A1v a d b hb (List.isPrefixOf_iff_prefix.2 c)
  ·exact (A1v b hb a d (List.isPrefixOf_iff_prefix.2 c)).symm
 subst e;exact ⟨rfl,List.append_cancel_left f⟩
theorem A0o:∀a∈Zk,∀r,A0e (32::(wd a++r)):=by
 intro a e r;have key:∀a∈Zk,(match wd a with|[]=>false|c::_=>decide (c≠43)&&decide (c≠45))=true:=by decide
 have:=key a e;refine ⟨Xg _,λc q h=>?_⟩
 cases b:wd a with
 | nil=>rw [b] at this;cases this
 | cons d s =>
  rw [b] at this h;simp at this h;rw [←h.1];exact this
def T.hd:T->T
 | .bin op a b=>if op<14 then .bin op a b else a.hd
 | t=>t
def T.tl:T->List (Int×T)
 | .bin op a b=>if op<14 then [] else a.tl++[(op,b)]
 | _=>[]
def T.mk (h:T) (l:List (Int×T)):T:=l.foldl (λa p=>.bin p.1 a p.2) h
theorem T.eta (t:T):T.mk t.hd t.tl=t:=by
 induction t with
 | leaf op v=>rfl
 | un op r g a ih=>rfl
 | bin op a b iha ihb =>
  unfold T.hd T.tl
  split
  ·rfl
  ·unfold T.mk at *;rw [List.foldl_append,iha];rfl
def Tq (l:List (Int×T)):List UInt8:=l.flatMap λp=>32::(wd p.1++(32::textT p.2))
theorem A51 (t:T):textT t=textT t.hd++Tq t.tl:=by
 induction t with
 | leaf op v=>simp [T.hd,T.tl,Tq]
 | un op r g a ih=>simp [T.hd,T.tl,Tq]
 | bin op a b iha ihb =>
  by_cases h:op<14
  ·simp only [T.hd,T.tl,if_pos h,Tq,List.flatMap_nil,List.append_nil]
  ·simp only [T.hd,T.tl,if_neg h];rw [textT,if_neg h,iha];unfold Tq;simp
def Itm (t:T):Prop:=t.op<26/\∃k,okT k t
theorem T.hd_size (t:T):t.hd.size<=t.size:=by
 induction t with
 | leaf op v=>exact Nat.le_refl _
 | un op r g a ih=>exact Nat.le_refl _
 | bin op a b iha ihb =>
  unfold T.hd
  split
  ·exact Nat.le_refl _
  ·simp only [T.size];omega
theorem B2t:∀(t:T) (k:Bool),okT k t->Itm t.hd/\∀p∈t.tl,(p.1=26\/p.1=27)/\Itm p.2/\p.2.size<t.size:=by
 intro t
 induction t with
 | leaf op v=>intro k h;exact ⟨⟨by show op<26;cases k<;>simp only [okT] at h<;>omega,k,h⟩,λp c=>by simp [T.tl] at c⟩
 | un op r g a ih=>intro k h;exact ⟨⟨by show op<26;cases k<;>simp only [okT] at h<;>omega,k,h⟩,λp c=>by simp [T.tl] at c⟩
 | bin op a b iha ihb =>
  intro k h
  by_cases d:op<14
  ·simp only [T.hd,T.tl,if_pos d];exact ⟨⟨by show op<26;omega,k,h⟩,λp c=>by simp at c⟩
  ·simp only [T.hd,T.tl,if_neg d];have e:(op=26\/op=27)/\okT false a/\okT false b/\b.op<26:=by
    cases k<;>simp only [okT] at h
    ·exact h
    ·omega
   obtain ⟨f,i,j,l⟩:=e;obtain ⟨i1,i2⟩:=iha false i;refine ⟨i1,λp c=>?_⟩;rcases List.mem_append.1 c with c|c
   ·obtain ⟨j1,j2,j3⟩:=i2 p c;exact ⟨j1,j2,by simp only [T.size];omega⟩
   ·simp at c;subst c;exact ⟨f,⟨l,_,j⟩,by simp only [T.size];have:=a.size_pos;omega⟩
def PCi (n:Nat):Prop:=∀t t':T,t.size<=n->Itm t->Itm t'->∀u u',A13 u->A13 u'->textT t++u=textT t'++u'->t=t'/\u=u'
def PCa (n:Nat):Prop:=∀(t t':T) (k k':Bool),t.size<=n->okT k t->okT k' t'->∀u u',A0e u->A0e u'->textT t++u=textT t'++u'->t=t'/\u=u'
theorem Xh {l:List (Int×T)} {u:List UInt8} (h:A13 u):A13 (Tq l++u):=by
 cases l with
 | nil=>exact h
 | cons p l=>exact Xg _
theorem B2k:wd 26=[43]:=by decide
theorem B2l:wd 27=[45]:=by decide
theorem B2g (k:PCi n):∀(l l':List (Int×T)),(∀p∈l,(p.1=26\/p.1=27)/\Itm p.2/\p.2.size<=n)->(∀p∈l',(p.1=26\/p.1=27)/\Itm p.2)->∀u u',A0e u->A0e u'->Tq l++u=Tq l'++u'->l=l'/\u=u':=by
 have no:∀(p:Int×T) (l:List (Int×T)) (u u':List UInt8),(p.1=26\/p.1=27)->A0e u->Tq (p::l)++u'=u->False:=by
  intro p l u u' f d h;have e:∃c r,u=32::c::r/\(c=43\/c=45):=by
   rw [←h];simp only [Tq,List.flatMap_cons,List.cons_append,List.append_assoc];rcases f with f|f
   ·rw [f,B2k];exact ⟨43,_,rfl,.inl rfl⟩
   ·rw [f,B2l];exact ⟨45,_,rfl,.inr rfl⟩
  obtain ⟨c,r,e1,e2⟩:=e;have:=d.2 c r e1;rcases e2 with rfl|rfl
  ·exact this.1 rfl
  ·exact this.2 rfl
 intro l
 induction l with
 | nil =>
  intro l' _ g u u' d b h
  cases l' with
  | nil=>exact ⟨rfl,h⟩
  | cons p l'=>exact (no p l' u u' (g p (by simp)).1 d h.symm).elim
 | cons p l ih =>
  intro l' i g u u' d b h
  cases l' with
  | nil=>exact (no p l u' u (i p (by simp)).1 b h).elim
  | cons p' l' =>
   obtain ⟨o1,i1,s1⟩:=i p (by simp);obtain ⟨o2,i2⟩:=g p' (by simp);simp only [Tq,List.flatMap_cons,List.cons_append,List.append_assoc] at h;have h:=(List.cons.inj h).2;have e:p.1=p'.1/\textT p.2++(Tq l++u)=textT p'.2++(Tq l'++u'):=by
    rcases o1 with o1|o1<;>rcases o2 with o2|o2<;>rw [o1,o2] at h ⊢
    ·exact ⟨rfl,by simpa [B2k,Tq] using h⟩
    ·rw [B2k,B2l] at h;simp at h
    ·rw [B2k,B2l] at h;simp at h
    ·exact ⟨rfl,by simpa [B2l,Tq] using h⟩
   obtain ⟨e1,e2⟩:=k p.2 p'.2 s1 i1 i2 _ _ (Xh d.1) (Xh b.1) e.2;obtain ⟨e3,e4⟩:=ih l' (λq j=>i q (by simp [j])) (λq j=>g q (by simp [j])) u u' d b e2;refine ⟨?_,e4⟩;rw [e3,show p=p' from Prod.ext e.1 e1]
theorem PCi.all (h:PCi n):PCa n:=by
 intro t t' k k' hs e f u u' d c he;obtain ⟨a1,a2⟩:=B2t t k e;obtain ⟨b1,b2⟩:=B2t t' k' f;rw [A51 t,A51 t',List.append_assoc,List.append_assoc] at he;obtain ⟨e1,e2⟩:=h t.hd t'.hd (Nat.le_trans t.hd_size hs) a1 b1 _ _ (Xh d.1) (Xh c.1) he;obtain ⟨e3,e4⟩:=B2g h t.tl t'.tl (λp b=>⟨(a2 p b).1,(a2 p b).2.1,by have:=(a2 p b).2.2;omega⟩) (λp b=>⟨(b2 p b).1,(b2 p b).2.1⟩) u u' d c e2;refine ⟨?_,e4⟩;rw [←t.eta,←t'.eta,e1,e3]
theorem A73 {c:UInt8} {x y:List UInt8} (h:c::x=c::y):x=y:=(List.cons.inj h).2
theorem Zx {op:Int} (h:op=1\/op=2\/op=3\/op=6\/op=7\/(15<=op/\op<=25)):op∈Z1:=by
 have:op=1\/op=2\/op=3\/op=6\/op=7\/op=15\/op=16\/op=17\/op=18\/op=19\/op=20\/op=21\/op=22\/op=23\/op=24\/op=25:=by omega
 simp [Z1];omega
theorem A2v {op:Int} (h:op=4\/op=5\/(8<=op/\op<=13)):op∈Zk:=by simp [Zk];omega
inductive Beg where
 | num (v:Int)
 | word (op:Int) (r:List UInt8)
 | open_ (r:List UInt8)
def Beg.tx:Beg->List UInt8
 | .num v=>Lib.itoa v
 | .word op r=>wd op++r
 | .open_ r=>40::r
def Beg.ok:Beg->Prop
 | .num v=>0<=v
 | .word op _=>op∈Z1
 | .open_ _=>True
theorem B3b {a b:Beg} {u u':List UInt8} (d:a.ok) (hb:b.ok) (i:A13 u) (f:A13 u') (h:a.tx++u=b.tx++u') :
  (∃v,a=.num v/\b=.num v/\u=u')\/(∃op r r',a=.word op r/\b=.word op r'/\r++u=r'++u')\/∃r r',a=.open_ r/\b=.open_ r'/\r++u=r'++u':=by
 have first:∀(x:Beg),x.ok->∀w,∃c q,x.tx++w=c::q/\(match x with|.num _=>Ut c=true|.word _ _=>Ut c=false/\c≠40|.open_ _=>c=40):=by
  intro x g w
  cases x with
  | num v =>
   obtain ⟨c,r,e,hd⟩:=A7n g;exact ⟨c,r++w,by show Lib.itoa v++w=_;rw [e];rfl,hd⟩
  | word op r =>
   obtain ⟨c,s,e,j,k⟩:=A7i op g;exact ⟨c,s++r++w,by show wd op++r++w=_;rw [e];rfl,j,k⟩
  | open_ r=>exact ⟨40,r++w,rfl,rfl⟩
 obtain ⟨c,q,e1,k1⟩:=first a d u
 obtain ⟨c',q',e2,k2⟩:=first b hb u'
 have l:c=c':=by rw [e1,e2] at h;exact (List.cons.inj h).1
 subst l;have d40:Ut 40=false:=by decide
 cases a with
 | num v =>
  cases b with
  | num v' =>
   obtain ⟨rfl,e⟩:=A5w d hb i f h;exact .inl ⟨v,rfl,rfl,e⟩
  | word op r =>
   have k1:Ut c=true:=k1;have k2:Ut c=false/\c≠40:=k2;rw [k1] at k2;cases k2.1
  | open_ r =>
   have k1:Ut c=true:=k1;have k2:c=40:=k2;subst k2;rw [d40] at k1;cases k1
 | word op r =>
  cases b with
  | num v' =>
   have k1:Ut c=false/\c≠40:=k1;have k2:Ut c=true:=k2;rw [k2] at k1;cases k1.1
  | word op' r' =>
   have h:wd op++r++u=wd op'++r'++u':=h;rw [List.append_assoc,List.append_assoc] at h;obtain ⟨rfl,e⟩:=B2m d hb h;exact .inr (.inl ⟨op,r,r',rfl,rfl,e⟩)
  | open_ r' =>
   have k1:Ut c=false/\c≠40:=k1;have k2:c=40:=k2;exact (k1.2 k2).elim
 | open_ r =>
  have k1:c=40:=k1
  cases b with
  | num v' =>
   have k2:Ut c=true:=k2;subst k1;rw [d40] at k2;cases k2
  | word op' r' =>
   have k2:Ut c=false/\c≠40:=k2;exact (k2.2 k1).elim
  | open_ r'=>exact .inr (.inr ⟨r,r',rfl,rfl,(List.cons.inj h).2⟩)
def T.beg:T->Beg
 | .leaf op v=>if op=14 then .num v else .word op []
 | .un op r g a=>if op=3 then .word 3 (32::textT a) else .word op (32::(Lib.itoa r++(32::(Lib.itoa g++(32::textT a)))))
 | .bin op a b=>.open_ (textT a++(32::(wd op++(32::(textT b++[41])))))
theorem A8i (h:Itm t):t.beg.ok/\textT t=t.beg.tx:=by
 obtain ⟨c,k,d⟩:=h
 cases t with
 | leaf op v =>
  have c:op<26:=c
  by_cases q:op=14
  ·simp only [T.beg,textT,if_pos q];exact ⟨by show 0<=v;cases k<;>simp only [okT] at d<;>omega,rfl⟩
  ·simp only [T.beg,textT,if_neg q];exact ⟨Zx (by cases k<;>simp only [okT] at d<;>omega),(List.append_nil _).symm⟩
 | un op r g a =>
  have c:op<26:=c
  by_cases q:op=3
  ·simp only [T.beg,textT,if_pos q];exact ⟨Zx (by omega),rfl⟩
  ·simp only [T.beg,textT,if_neg q];exact ⟨Zx (by cases k<;>simp only [okT] at d<;>omega),rfl⟩
 | bin op a b =>
  have e:op<14:=by
   have c:op<26:=c
   cases k<;>simp only [okT] at d<;>omega
  simp only [T.beg,textT,if_pos e];exact ⟨trivial,rfl⟩
theorem A75 (op v:Int):(op=14/\(T.leaf op v).beg=.num v)\/(op≠14/\(T.leaf op v).beg=.word op []):=by
 by_cases q:op=14
 ·exact .inl ⟨q,by simp only [T.beg,if_pos q]⟩
 ·exact .inr ⟨q,by simp only [T.beg,if_neg q]⟩
theorem A76 (op r g:Int) (a:T):(op=3/\(T.un op r g a).beg=.word 3 (32::textT a))\/(op≠3/\(T.un op r g a).beg=.word op (32::(Lib.itoa r++(32::(Lib.itoa g++(32::textT a)))))):=by
 by_cases q:op=3
 ·exact .inl ⟨q,by simp only [T.beg,if_pos q]⟩
 ·exact .inr ⟨q,by simp only [T.beg,if_neg q]⟩
theorem B10 (op:Int) (a b:T):(T.bin op a b).beg=.open_ (textT a++(32::(wd op++(32::(textT b++[41]))))):=rfl
theorem okL {k:Bool} {op:Int} (h:okT k (.leaf op v)):0<=v/\(op≠14->v=0)/\op≠3/\(op<7\/op=14\/(15<=op/\op<=25)):=by cases k<;>simp only [okT] at h<;>omega
theorem okU {k:Bool} {op:Int} {x:T} (h:okT k (.un op r g x)):okT true x/\0<=r/\0<=g/\(op=3->r=0/\g=0):=by
 cases k<;>simp only [okT] at h
 ·exact ⟨h.2,by omega,by omega,by omega⟩
 ·exact ⟨h.2,by omega,by omega,by omega⟩
theorem B1t {k k':Bool} {op:Int} {x:T} (h:okT k (.leaf op v)) (h':okT k' (.un op r g x)):False:=by cases k<;>cases k'<;>simp only [okT] at h h'<;>omega
theorem okB {k:Bool} {op:Int} {a b:T} (h:okT k (.bin op a b)) (c:op<26):(∃q,okT q a)/\(∃q,okT q b)/\op∈Zk:=by
 cases k<;>simp only [okT] at h
 ·omega
 ·rcases h with h|h
  ·exact ⟨⟨_,h.2.1⟩,⟨_,h.2.2⟩,A2v (by omega)⟩
  ·exact ⟨⟨_,h.2.2.1⟩,⟨_,h.2.2.2⟩,A2v (by omega)⟩
theorem Z3 {x:T} (h:okT true x):Itm x:=⟨by cases x<;>simp only [okT] at h<;>simp only [T.op]<;>omega,_,h⟩
theorem B1v:∀n,PCi n:=by
 intro n
 induction n with
 | zero=>intro t t' hs;have:=t.size_pos;omega
 | succ n ih =>
  have l:=ih.all;intro t t' hs m o u u' g d he;obtain ⟨a1,a2⟩:=A8i m;obtain ⟨b1,b2⟩:=A8i o;rw [a2,b2] at he;obtain ⟨i,k,e⟩:=m;obtain ⟨j,k',f⟩:=o;have paren:∀r,A0e (41::r):=λr=>⟨λc q h=>by cases h;rfl,λc q h=>by cases h⟩
  have he:=B3b a1 b1 g d he
  cases t with
  | leaf op1 w =>
   obtain ⟨o1,o2,-,-⟩:=okL e
   cases t' with
   | leaf op2 w' =>
    obtain ⟨o3,o4,-,-⟩:=okL f;rcases A75 op1 w with ⟨q1,q2⟩|⟨q1,q2⟩<;>rcases A75 op2 w' with ⟨q3,q4⟩|⟨q3,q4⟩<;>rw [q2,q4] at he <;>
     rcases he with ⟨v,e1,e2,e3⟩|⟨op,r,r',e1,e2,e3⟩|⟨r,r',e1,e2,e3⟩<;>cases e1<;>cases e2
    ·exact ⟨by rw [q1,q3],e3⟩
    ·exact ⟨by rw [o2 q1,o4 q1],e3⟩
   | un op2 r2 g2 y =>
    exfalso;rcases A75 op1 w with ⟨q1,q2⟩|⟨q1,q2⟩<;>rcases A76 op2 r2 g2 y with ⟨q3,q4⟩|⟨q3,q4⟩<;>rw [q2,q4] at he <;>
     rcases he with ⟨v,e1,e2,e3⟩|⟨op,r,r',e1,e2,e3⟩|⟨r,r',e1,e2,e3⟩<;>cases e1<;>cases e2
    ·subst q3;exact B1t e f
    ·exact B1t e f
   | bin op2 a' b' =>
    exfalso;rcases A75 op1 w with ⟨q1,q2⟩|⟨q1,q2⟩<;>rw [q2,B10] at he <;>
     rcases he with ⟨v,e1,e2,e3⟩|⟨op,r,r',e1,e2,e3⟩|⟨r,r',e1,e2,e3⟩<;>cases e1<;>cases e2
  | un op1 r1 g1 x =>
   obtain ⟨p,z1,z2,z3⟩:=okU e;simp only [T.size] at hs
   cases t' with
   | leaf op2 w' =>
    exfalso;rcases A76 op1 r1 g1 x with ⟨q1,q2⟩|⟨q1,q2⟩<;>rcases A75 op2 w' with ⟨q3,q4⟩|⟨q3,q4⟩<;>rw [q2,q4] at he <;>
     rcases he with ⟨v,e1,e2,e3⟩|⟨op,r,r',e1,e2,e3⟩|⟨r,r',e1,e2,e3⟩<;>cases e1<;>cases e2
    ·subst q1;exact B1t f e
    ·exact B1t f e
   | un op2 r2 g2 y =>
    obtain ⟨s,y1,y2,y3⟩:=okU f;rcases A76 op1 r1 g1 x with ⟨q1,q2⟩|⟨q1,q2⟩<;>rcases A76 op2 r2 g2 y with ⟨q3,q4⟩|⟨q3,q4⟩<;>rw [q2,q4] at he <;>
     rcases he with ⟨v,e1,e2,e3⟩|⟨op,r,r',e1,e2,e3⟩|⟨r,r',e1,e2,e3⟩<;>cases e1<;>cases e2
    ·obtain ⟨e4,e5⟩:=ih x y (by omega) (Z3 p) (Z3 s) u u' g d (A73 e3);exact ⟨by rw [q1,q3,(z3 q1).1,(z3 q1).2,(y3 q3).1,(y3 q3).2,e4],e5⟩
    ·exact (q3 rfl).elim
    ·exact (q1 rfl).elim
    ·have e4:=A73 e3;have e4:Lib.itoa r1++(32::(Lib.itoa g1++(32::(textT x++u))))=Lib.itoa r2++(32::(Lib.itoa g2++(32::(textT y++u')))):=by simpa using e4
     obtain ⟨f1,f2⟩:=A5w z1 y1 (Xg _) (Xg _) e4;obtain ⟨f3,f4⟩:=A5w z2 y2 (Xg _) (Xg _) (A73 f2);obtain ⟨f5,f6⟩:=ih x y (by omega) (Z3 p) (Z3 s) u u' g d (A73 f4);exact ⟨by rw [f1,f3,f5],f6⟩
   | bin op2 a' b' =>
    exfalso;rcases A76 op1 r1 g1 x with ⟨q1,q2⟩|⟨q1,q2⟩<;>rw [q2,B10] at he <;>
     rcases he with ⟨v,e1,e2,e3⟩|⟨op,r,r',e1,e2,e3⟩|⟨r,r',e1,e2,e3⟩<;>cases e1<;>cases e2
  | bin op1 a b =>
   have i:op1<26:=i;obtain ⟨⟨q1,oa⟩,⟨q2,ob⟩,os⟩:=okB e i;simp only [T.size] at hs;rw [B10] at he
   cases t' with
   | leaf op2 w' =>
    exfalso;rcases A75 op2 w' with ⟨q3,q4⟩|⟨q3,q4⟩<;>rw [q4] at he <;>
     rcases he with ⟨v,e1,e2,e3⟩|⟨op,r,r',e1,e2,e3⟩|⟨r,r',e1,e2,e3⟩<;>cases e1<;>cases e2
   | un op2 r2 g2 y =>
    exfalso;rcases A76 op2 r2 g2 y with ⟨q3,q4⟩|⟨q3,q4⟩<;>rw [q4] at he <;>
     rcases he with ⟨v,e1,e2,e3⟩|⟨op,r,r',e1,e2,e3⟩|⟨r,r',e1,e2,e3⟩<;>cases e1<;>cases e2
   | bin op2 a' b' =>
    have j:op2<26:=j;obtain ⟨⟨q3,oa'⟩,⟨q4,ob'⟩,os'⟩:=okB f j;rw [B10] at he;rcases he with ⟨v,e1,e2,e3⟩|⟨op,r,r',e1,e2,e3⟩|⟨r,r',e1,e2,e3⟩<;>cases e1<;>cases e2
    simp only [List.append_assoc,List.cons_append,List.nil_append] at e3;obtain ⟨f1,f2⟩:=l a a' q1 q3 (by omega) oa oa' _ _ (A0o op1 os _) (A0o op2 os' _) e3;obtain ⟨f3,f4⟩:=B2a os os' (A73 f2);obtain ⟨f5,f6⟩:=l b b' q2 q4 (by omega) ob ob' _ _ (paren _) (paren _) f4;exact ⟨by rw [f1,f3,f5],A73 f6⟩
theorem A52 {t':T} {k k':Bool} (h:okT k t) (h':okT k' t') (e:textT t=textT t'):t=t' :=
 have sn:A0e []:=⟨(λ_ _ h=>by simp at h),(λ_ _ h=>by simp at h)⟩
 ((B1v t.size).all t t' k k' (Nat.le_refl _) h h' [] [] sn sn (by rw [e])).1
def tab {α:Type} (n:Nat) (f:Int->α):List α:=(List.range n).map λi:Nat=>f (i:Int)
theorem B2f (n:Nat) (f:Int->α):(tab n f).length=n:=by simp [tab]
theorem A6x {f:Int->α} (h:i<n):(tab n f)[i]? = some (f i):=by simp [tab,h]
theorem W7 {f:Int->α} {g:α->Option β} {i:Int} (h:0<=i/\i<n):(getI (tab n f) i).bind g=g (f i):=by
 obtain ⟨j,rfl⟩:∃j:Nat,i=j:=⟨i.toNat,by omega⟩;exact C5 j _ rfl (A6x (by omega))
theorem B1c {L:Nat->Int->Int->List α->Option (List α)} {f:Int->Option α} {g:Int->α} {N:Nat}
  (c:∀n x i l,L (n+1) x i l=bif decide (i<x) then ((f i).bind λy=>(getI l i).bind λ_=>(L0 l i y).bind λl'=>(ck (i+1)).bind λi'=>L n x i' l') else some l)
  (d:∀i:Int,0<=i->i<N->f i=some (g i)) (p:N<=1000000) :
  ∀(F j:Nat) (l:List α),l.length=N->N+1<=F+j->j<=N->(∀i:Nat,i<j->l[i]? = some (g i))->L F N j l=some (tab N g):=by
 intro F
 induction F with
 | zero=>intro j l _ k m;omega
 | succ F ih =>
  intro j l o k m b;rw [c]
  by_cases hj:j<N
  ·rw [At (dT (by omega)),d j (by omega) (by omega),sbd,C5 j _ rfl (List.getElem?_eq_getElem (by omega)),show L0 l (j:Int) (g j)=some (l.set j (g j)) by unfold L0;rw [if_pos (by omega),Int.toNat_natCast],sbd,ckb (by omega)];refine ih (j+1) _ (by simp [o]) (by omega) (by omega) λi hi=>?_
   by_cases e:i=j
   ·subst e;rw [List.getElem?_set_self (by omega)]
   ·rw [List.getElem?_set_ne (by omega)];exact b i (by omega)
  ·rw [Ag (dF (by omega))]
   congr 1
   apply List.ext_getElem?;intro i
   by_cases hi:i<N
   ·rw [b i (by omega),A6x hi]
   ·rw [List.getElem?_eq_none (by omega),List.getElem?_eq_none (by rw [B2f];omega)]
theorem Tt {L:Nat->Int->Int->List α->Option (List α)} {f:Int->Option α} {g:Int->α} {N B:Nat} {p:Int} {z:α}
  (c:∀n x i l,L (n+1) x i l=bif decide (i<x) then ((f i).bind λy=>(getI l i).bind λ_=>(L0 l i y).bind λl'=>(ck (i+1)).bind λi'=>L n x i' l') else some l)
  (d:∀i:Int,0<=i->i<N->f i=some (g i)) (b:N<=1000000) (hF:N+1<=F) (e:p=N) (j:B<=1000) :
  ((mkI B p z).bind λl=>L F (l.length:Int) 0 l)=some (tab N g):=by
 subst e;have hm:B*N<=1000*1000000:=Nat.mul_le_mul j b;unfold mkI;rw [if_pos (by simp only [Int.toNat_natCast];omega),sbd,List.length_replicate];exact B1c c d b F 0 _ (by simp) (by omega) (by omega) (λi hi=>by omega)
def irg (lo hi:Int):List Int:=(List.range (hi+1-lo).toNat).map λi:Nat=>lo+(i:Int)
theorem A6r {lo hi:Int} (h:hi<lo):irg lo hi=[]:=by
 unfold irg;rw [show (hi+1-lo).toNat=0 by omega];rfl
theorem A4d {lo hi:Int} (h:lo<=hi):irg lo hi=lo::irg (lo+1) hi:=by
 unfold irg;rw [show (hi+1-lo).toNat=(hi+1-(lo+1)).toNat+1 by omega,List.range_succ_eq_map,List.map_cons,List.map_map]
 congr 1
 ·simp
 ·apply List.map_congr_left;intro i _;show lo+((i+1:Nat):Int)=lo+1+(i:Int);omega
theorem Ty {lo hi:Int}:x∈irg lo hi↔lo<=x/\x<=hi:=by
 unfold irg;rw [List.mem_map];constructor
 ·rintro ⟨i,b,c⟩;have:=List.mem_range.1 b;omega
 ·rintro ⟨b,c⟩;exact ⟨(x-lo).toNat,List.mem_range.2 (by omega),by omega⟩
theorem Zy {q j R m:Int} (c:0<=q) (d:q<R) (e:0<=j) (f:j<m):0<=q*m+j/\q*m+j<R*m:=by
 have a:0<=q*m:=Int.mul_nonneg c (by omega);have b:(q+1)*m<=R*m:=Int.mul_le_mul_of_nonneg_right (by omega) (by omega);rw [Int.add_mul] at b;omega
def nb1 (R m k g b:Int):List Int:=((irg (if k%m-g>0 then k%m-g else 0) (if k%m+g<m-1 then k%m+g else m-1)).map λj=>(b+R)%R*m+j).filter λo=>o != k
def nbs (R m k r g:Int):List Int:=(if k/m+r-(k/m-r)>=R then irg 0 (R-1) else irg (k/m-r) (k/m+r)).flatMap (nb1 R m k g)
section
variable {σ:Type} {body:σ->Int->Option (σ×Bool)} {f:σ->Int->σ} {P:σ->Nat->Prop} {R m:Int}
theorem ar4 (hR:(d.s.Rays.length:Int)=R) (hm:d.s.Site.Gates=m) (q:1<=R/\R<=1000) (r:1<=m/\m<=1000) (hk:0<=k/\k<=1000000) (hg:0<=g/\g<=3)
  (hb:∀s o c,P s c->0<=o->o<R*m->c<=1000000->body s o=some (f s o,true)/\P (f s o) (c+1)) (b:Int) (z:0<=b+R/\b<=1000) (k2:Int->σ->Option (σ×Bool)) :
  ∀(n:Nat) (j:Int) (s:σ) (c:Nat),P s c->0<=j->((if k%m+g<m-1 then k%m+g else m-1)+1-j).toNat+1<=n->c+((if k%m+g<m-1 then k%m+g else m-1)+1-j).toNat<=1000000 ->
  ∃c',P ((((irg j (if k%m+g<m-1 then k%m+g else m-1)).map λj=>(b+R)%R*m+j).filter λo=>o != k).foldl f s) c'/\c'<=c+((if k%m+g<m-1 then k%m+g else m-1)+1-j).toNat /\
   Dm body k g d (k%m) b k2 n j s=Ez b k2 ((((irg j (if k%m+g<m-1 then k%m+g else m-1)).map λj=>(b+R)%R*m+j).filter λo=>o != k).foldl f s):=by
 have b0:0<=k%m/\k%m<m:=⟨Int.emod_nonneg _ (by omega),Int.emod_lt_of_pos _ (by omega)⟩;generalize i:(if k%m+g<m-1 then k%m+g else m-1)=hi;have y:hi<=m-1:=by subst i;split<;>omega
 have t:0<=(b+R)%R/\(b+R)%R<R:=⟨Int.emod_nonneg _ (by omega),Int.emod_lt_of_pos _ (by omega)⟩;have b1:R*m<=1000000:=by
  have:=Int.mul_le_mul q.2 r.2 (by omega) (by omega);omega
 intro n
 induction n with
 | zero=>intro j s c _ _ h;omega
 | succ n ih =>
  intro j s c u hj hn hc;show ∃c',_/\_/\Ex body k g d (k%m) b k2 (Dm body k g d (k%m) b k2 n) j s=_;unfold Ex;rw [hm,hR,ckb (by omega),ckb (by omega),i]
  by_cases e:j<=hi
  ·have l:=Zy t.1 t.2 hj (show j<m by omega);have b2:0<=(b+R)%R*m:=Int.mul_nonneg t.1 (by omega);rw [At (dT e),ckb (by omega)];rw [show Wr (b+R) R=some ((b+R)%R) by unfold Wr;rw [if_neg (by omega),Int.tmod_eq_emod_of_nonneg (by omega)],sbd,ckb (by omega),ckb (by omega),A4d e,List.map_cons]
   by_cases ho:(b+R)%R*m+j=k
   ·rw [Ag (neF ho),ckb (by omega),List.filter_cons_of_neg (p:=λo=>o != k) (a:=(b+R)%R*m+j) (by show ¬(((b+R)%R*m+j) != k)=true;rw [neF ho];simp)];obtain ⟨c',v,h2,x⟩:=ih (j+1) s c u (by omega) (by omega) (by omega);exact ⟨c',v,by omega,x⟩
   ·obtain ⟨e1,e2⟩:=hb s _ c u l.1 l.2 (by omega);rw [At (neT ho),e1,sbd,At rfl,ckb (by omega),List.filter_cons_of_pos (p:=λo=>o != k) (a:=(b+R)%R*m+j) (neT ho),List.foldl_cons];obtain ⟨c',v,h2,x⟩:=ih (j+1) _ (c+1) e2 (by omega) (by omega) (by omega);exact ⟨c',v,by omega,x⟩
  ·rw [Ag (dF e),A6r (by omega)];exact ⟨c,u,by omega,rfl⟩
theorem ar2 (hR:(d.s.Rays.length:Int)=R) (hm:d.s.Site.Gates=m) (i:1<=R/\R<=1000) (j:1<=m/\m<=1000) (p:0<=k/\k<=1000000) (q:0<=g/\g<=3)
  (hb:∀s o c,P s c->0<=o->o<R*m->c<=1000000->body s o=some (f s o,true)/\P (f s o) (c+1)) (last:Int) (z:last<=1000) (F:Nat) (hF:1002<=F) :
  ∀(n:Nat) (b:Int) (s:σ) (c:Nat),P s c->0<=b+R->(last+1-b).toNat+1<=n->c+(last+1-b).toNat*1000<=1000000 ->
   Cs F body k g d (k%m) last n b s=some (((irg b last).flatMap (nb1 R m k g)).foldl f s,true):=by
 have r:0<=k%m/\k%m<m:=⟨Int.emod_nonneg _ (by omega),Int.emod_lt_of_pos _ (by omega)⟩;intro n
 induction n with
 | zero=>intro b s c _ _ h;omega
 | succ n ih =>
  intro b s c t u hn hc;show Ew F body k g d (k%m) last (Cs F body k g d (k%m) last n) b s=_;unfold Ew
  by_cases e:b<=last
  ·rw [At (dT e),ckb (by omega),A4d e,List.flatMap_cons,List.foldl_append];have v:(if k%m+g<m-1 then k%m+g else m-1)<=999:=by split<;>omega
   have l:0<=(if k%m-g>0 then k%m-g else 0):=by split<;>omega
   obtain ⟨c',x,h2,y⟩:=ar4 hR hm i j p q hb b (by omega) (Cs F body k g d (k%m) last n) F (if k%m-g>0 then k%m-g else 0) s c t l (by omega) (by omega);rw [y];unfold Ez;rw [ckb (by omega)];exact ih (b+1) _ c' x (by omega) (by omega) (by omega)
  ·rw [Ag (dF e),A6r (by omega)];rfl
theorem A2h (hR:(d.s.Rays.length:Int)=R) (hm:d.s.Site.Gates=m) (i:4<=R/\R<=500) (b:1<=m/\m<=1000) (e:0<=k/\k<R*m) (n:0<=r/\r<=3) (j:0<=g/\g<=3)
  (hb:∀s o c,P s c->0<=o->o<R*m->c<=1000000->body s o=some (f s o,true)/\P (f s o) (c+1)) (hF:1002<=F) {s:σ} (h0:P s 0) :
  Ff F (some d) k r g body s=some ((nbs R m k r g).foldl f s,true):=by
 have l:R*m<=500000:=by
  have:=Int.mul_le_mul i.2 b.2 (by omega) (by omega);omega
 have hd:0<=k/m/\k/m<R:=⟨Int.ediv_nonneg e.1 (by omega),Int.ediv_lt_of_lt_mul (by omega) e.2⟩;unfold Ff;rw [sbd,hm,hR,show A26 k m=some (k/m) by unfold A26;rw [if_neg (by omega),Int.tdiv_eq_ediv_of_nonneg e.1];unfold ck;rw [if_pos (by omega)],sbd,
  show Wr k m=some (k%m) by unfold Wr;rw [if_neg (by omega),Int.tmod_eq_emod_of_nonneg e.1],sbd,ckb (by omega),ckb (by omega),ckb (by omega)]
 unfold nbs Ey
 by_cases h:k/m+r-(k/m-r)>=R
 ·rw [At (dT h),if_pos h,ckb (by omega)];exact ar2 hR hm ⟨by omega,by omega⟩ b ⟨e.1,by omega⟩ j hb _ (by omega) F hF F 0 s 0 h0 (by omega) (by omega) (by omega)
 ·rw [Ag (dF h),if_neg h];exact ar2 hR hm ⟨by omega,by omega⟩ b ⟨e.1,by omega⟩ j hb _ (by omega) F hF F _ s 0 h0 (by omega) (by omega) (by omega)
end
theorem B1m {R m o:Int} (hR:1<=R) (hm:1<=m) (h:o∈nbs R m k r g):0<=o/\o<R*m:=by
 have key:∀b,o∈nb1 R m k g b->0<=o/\o<R*m:=by
  intro b hb;unfold nb1 at hb;obtain ⟨j,d,rfl⟩:=List.mem_map.1 ((List.mem_filter.1 hb).1);have c:=Ty.1 d;refine Zy (Int.emod_nonneg _ (by omega)) (Int.emod_lt_of_pos _ (by omega)) ?_ ?_
  ·have:=c.1;split at this<;>omega
  ·have:=c.2;split at this<;>omega
 unfold nbs at h;obtain ⟨b,_,c⟩:=List.mem_flatMap.1 h;exact key b c
def rowS (s:zF) (k:Int):zD:=((s.Rays[(k/s.Site.Gates).toNat]?.getD [])[(k%s.Site.Gates).toNat]?).getD default
def pt (n:Int):zE:=⟨⟨n,n⟩,true⟩
def noV:zE:=⟨⟨0,0⟩,false⟩
def T3 (s:zF) (op v k:Int):zE :=
 if op=14 then pt v else if op=21 then pt (rowS s k).Kind else if op=22 then pt (k/s.Site.Gates) else if op=23 then pt (k%s.Site.Gates) else if op=24 then pt s.Tilt else if op=15 then ⟨(rowS s k).Power,true⟩
 else if (rowS s k).Kind=1 then noV else if op=16 then ⟨(rowS s k).Ratio,true⟩ else if op=17 then ⟨(rowS s k).Match,true⟩ else if op=18 then pt (rowS s k).Spread else if (rowS s k).Kind=2 then noV else if op=19 then ⟨(rowS s k).Turn,true⟩ else ⟨⟨(rowS s k).Steps.1.Lo,(rowS s k).Steps.1.Hi⟩,true⟩
def tri (a b:Prop) [Decidable a] [Decidable b]:Int:=if a then 1 else if b then 2 else 3
def mx (a b:Int):Int:=if b>a then b else a
def mn (a b:Int):Int:=if b<a then b else a
def Y0 (op:Int) (x y:zC):Int :=
 if op=8\/op=10 then tri (x.Hi<y.Lo) (x.Lo<y.Hi) else if op=9\/op=11 then tri (x.Hi<=y.Lo) (x.Lo<=y.Hi)
 else if op=12 then tri (mx x.Hi y.Hi=mn x.Lo y.Lo) (x.Lo<=y.Hi/\y.Lo<=x.Hi) else tri (x.Hi<y.Lo\/y.Hi<x.Lo) (mx x.Hi y.Hi≠mn x.Lo y.Lo)
def Zo (op:Int) (a b:zE):Int :=
 if a.has=false\/b.has=false then 3 else if op=10\/op=11 then Y0 op b.span a.span else Y0 op a.span b.span
def A0v (op:Int) (a b:zE):zE :=
 if a.has=false\/b.has=false then noV else if op=27 then ⟨⟨a.span.Lo-b.span.Hi,a.span.Hi-b.span.Lo⟩,true⟩ else ⟨⟨a.span.Lo+b.span.Lo,a.span.Hi+b.span.Hi⟩,true⟩
def Vw (op:Int) (l:List Int) (f:Int->Int):Int :=
 if op=6 then l.foldl (λa o=>mn a (f o)) 3 else l.foldl (λa o=>mx a (f o)) 1
def U5 (l:List Int) (f:Int->Int):zE:=⟨⟨l.countP λo=>f o==1,l.countP λo=>f o != 3⟩,true⟩
def T.sem (s:zF):T->Int->Int×zE
 | .leaf op v,k=>(if op=1 then 1 else 3,T3 s op v k)
 | .un op r g a,k=>(if op=3 then 4-(a.sem s k).1 else Vw op (nbs s.Rays.length s.Site.Gates k r g) λo=>(a.sem s o).1,U5 (nbs s.Rays.length s.Site.Gates k r g) λo=>(a.sem s o).1)
 | .bin op a b,k=>(if op=4 then mx (a.sem s k).1 (b.sem s k).1 else if op=5 then mn (a.sem s k).1 (b.sem s k).1 else Zo op (a.sem s k).2 (b.sem s k).2,A0v op (a.sem s k).2 (b.sem s k).2)
def bdS (x:zC):Prop:=-2147483648<=x.Lo/\x.Lo<=2147483648/\-2147483648<=x.Hi/\x.Hi<=2147483648
def bdE (e:zD):Prop:=bdS e.Power/\bdS e.Ratio/\bdS e.Match/\bdS e.Turn/\bdS e.Steps.1/\bdS e.Steps.2/\0<=e.Kind/\e.Kind<=3/\0<=e.Spread/\e.Spread<=65535
structure Swp (s:zF) (R m:Nat):Prop where
 hR:s.Rays.length=R
 hm:s.Site.Gates=m
 R4:4<=R/\R<=500
 m1:1<=m/\m<=1000
 N1:R*m<=1000
 rows:∀l∈s.Rays,l.length=m
 bds:∀l∈s.Rays,∀e∈l,bdE e
 tilt:0<=s.Tilt/\s.Tilt<=256
theorem km (hm:1<=m) (h:0<=k/\k<(R*m:Nat)):0<=k/m/\k/m<R/\0<=k%m/\k%m<m:=by
 rw [Int.natCast_mul] at h;exact ⟨Int.ediv_nonneg h.1 (by omega),Int.ediv_lt_of_lt_mul (by omega) h.2,Int.emod_nonneg _ (by omega),Int.emod_lt_of_pos _ (by omega)⟩
theorem A11 (h:Swp s R m) (i:0<=k/\k<(R*m:Nat)) :
  ∃row,s.Rays[(k/m).toNat]? = some row/\row[(k%m).toNat]? = some (rowS s k)/\bdE (rowS s k):=by
 obtain ⟨a,b,c,d⟩:=km h.m1.1 i;have f:(k/m).toNat<s.Rays.length:=by rw [h.hR];omega
 have g:(k%m).toNat<(s.Rays[(k/m).toNat]).length:=by rw [h.rows _ (List.getElem_mem f)];omega
 have e:rowS s k=(s.Rays[(k/m).toNat])[(k%m).toNat]:=by
  unfold rowS;rw [h.hm,List.getElem?_eq_getElem f,Option.getD_some,List.getElem?_eq_getElem g,Option.getD_some]
 refine ⟨_,List.getElem?_eq_getElem f,?_,?_⟩
 ·rw [e];exact List.getElem?_eq_getElem g
 ·rw [e];exact h.bds _ (List.getElem_mem f) _ (List.getElem_mem g)
theorem B2z {m:Int} {f:Int->Option β} (b:0<=k/\k<=1000000) (hm:1<=m):(A26 k m).bind f=f (k/m):=by
 have h0:0<=k/m:=Int.ediv_nonneg b.1 (by omega);have c:k/m<=k:=Int.ediv_le_self _ b.1;unfold A26;rw [if_neg (by omega),Int.tdiv_eq_ediv_of_nonneg b.1,ckb (by omega)]
theorem B06 {m:Int} {f:Int->Option β} (b:0<=k) (hm:1<=m):(Wr k m).bind f=f (k%m):=by
 unfold Wr;rw [if_neg (by omega),Int.tmod_eq_emod_of_nonneg b];rfl
theorem Swp.lt (h:Swp s R m) (b:0<=k/\k<(R*m:Nat)):k<=1000000:=by have:=h.N1;omega
theorem A98 (h:Swp s R m) (f:0<=k/\k<(R*m:Nat)) (F:Nat) (hd:d.s=s) (p:zA) :
  Fq F k (some d) p=some (T3 s p.Op p.Value_ k):=by
 obtain ⟨row,i,j,-⟩:=A11 h f;obtain ⟨a,b,c,e⟩:=km h.m1.1 f;have l:=h.m1;have g:=h.lt f;unfold Fq;rw [sbd,hd,h.hm,B2z ⟨f.1,g⟩ (by omega),C5 (k/m).toNat row (by omega) i,B06 f.1 (by omega),C5 (k%m).toNat _ (by omega) j,B2z ⟨f.1,g⟩ (by omega),B06 f.1 (by omega)];unfold T3 Ab;rw [h.hm];simp only [Bool.cond_eq_ite,beq_iff_eq,apply_ite some];rfl
theorem A8c {a b:Bool} {p q:Prop} [Decidable p] [Decidable q] (e:a=true↔p) (f:b=true↔q):Bw a b=some (tri p q):=by
 unfold Bw tri
 by_cases c:p
 ·rw [At (e.2 c),if_pos c]
 ·rw [Ag (by cases a<;>simp_all),if_neg c]
  by_cases d:q
  ·rw [At (f.2 d),if_pos d]
  ·rw [Ag (by cases b<;>simp_all),if_neg d]
theorem B5s {p q:Prop} [Decidable p] [Decidable q]:(bif decide p then decide q else false)=true↔p/\q:=by by_cases h:p<;>simp [h]
theorem orB {p q:Prop} [Decidable p] [Decidable q]:(bif decide p then true else decide q)=true↔p\/q:=by by_cases h:p<;>simp [h]
theorem A6d {op:Int} {x:zC} (h:op=8\/op=10):Y0 op x y=tri (x.Hi<y.Lo) (x.Lo<y.Hi):=by unfold Y0;rw [if_pos h]
theorem A6e {op:Int} {x:zC} (h:op=9\/op=11):Y0 op x y=tri (x.Hi<=y.Lo) (x.Lo<=y.Hi):=by
 have b:¬(op=8\/op=10):=by omega
 unfold Y0;rw [if_neg b,if_pos h]
theorem A8s {x:zC}:Y0 12 x y=tri (mx x.Hi y.Hi=mn x.Lo y.Lo) (x.Lo<=y.Hi/\y.Lo<=x.Hi):=rfl
theorem A8t {x:zC}:Y0 13 x y=tri (x.Hi<y.Lo\/y.Hi<x.Lo) (mx x.Hi y.Hi≠mn x.Lo y.Lo):=rfl
theorem A6f {x:zC} (i:8<=p.Op/\p.Op<=13):Dg p x.Lo x.Hi y.Lo y.Hi=some (Y0 p.Op x y):=by
 unfold Dg Ee Ef
 by_cases f:p.Op=8
 ·rw [At (eqT f),At (eqT f),A6d (.inl f)];exact A8c decide_eq_true_iff decide_eq_true_iff
 rw [Ag (eqF f)]
 by_cases b:p.Op=10
 ·rw [At (eqT b),A6d (.inr b)];exact A8c decide_eq_true_iff decide_eq_true_iff
 rw [Ag (eqF b)]
 by_cases g:p.Op=9
 ·rw [At (eqT g),At (eqT g),A6e (.inl g)];exact A8c decide_eq_true_iff decide_eq_true_iff
 rw [Ag (eqF g)]
 by_cases c:p.Op=11
 ·rw [At (eqT c),A6e (.inr c)];exact A8c decide_eq_true_iff decide_eq_true_iff
 rw [Ag (eqF c)]
 by_cases d:p.Op=12
 ·rw [At (eqT d),d,A8s];exact A8c beq_iff_eq B5s
 have e:p.Op=13:=by omega
 rw [Ag (eqF d),At (eqT e),e,A8t];exact A8c orB bne_iff_ne
theorem B16 {f g:Int->zE} (d:0<=k/\k<(R*m:Nat)) (F:Nat) (p:zA) (b:8<=p.Op/\p.Op<=13) :
  Ed F k (tab (R*m) f) (tab (R*m) g) p=some (Zo p.Op (f k) (g k)):=by
 unfold Ed Zo;rw [W7 d]
 cases e:(f k).has
 ·rw [gdF (g:=(!false)==false&&true) rfl,sbd];simp
 ·rw [gdT (g:=(!true)==false&&true) rfl,W7 d]
  cases i:(g k).has
  ·simp
  ·rw [Ag (c:=bif !true then true else !true) rfl,W7 d,W7 d,if_neg (by simp)]
   by_cases h:p.Op=10\/p.Op=11
   ·rw [At (by rcases h with h|h<;>rw [h]<;>rfl),if_pos h,A6f b]
   ·rw [Ag (by rw [eqF (show p.Op≠10 by omega),eqF (show p.Op≠11 by omega)];rfl),if_neg h,A6f b]
def bdV (n:Nat) (x:zE):Prop:=-((n:Int)*2147483648)<=x.span.Lo/\x.span.Lo<=(n:Int)*2147483648/\-((n:Int)*2147483648)<=x.span.Hi/\x.span.Hi<=(n:Int)*2147483648
theorem A1y (h:-9000000000000000000<=x/\x<=9000000000000000000):IntKind.i64.wrap (0-x)=-x:=by
 rw [Go.Eng.wrap64 (by omega)];omega
theorem B2e {f g:Int->zE} (b:0<=k/\k<(R*m:Nat)) (F:Nat) (p:zA) {u v:Nat} (d:bdV u (f k)) (e:bdV v (g k)) (i:u+v<=1000000) :
  Hf F k (tab (R*m) f) (tab (R*m) g) p=some (A0v p.Op (f k) (g k)):=by
 obtain ⟨f1,f2,f3,f4⟩:=d;obtain ⟨g1,g2,g3,g4⟩:=e;unfold Hf A0v Gs;rw [W7 b]
 cases d:(f k).has
 ·rw [gdF (g:=(!false)==false&&true) rfl,sbd];simp [noV]
 ·rw [gdT (g:=(!true)==false&&true) rfl,W7 b]
  cases e:(g k).has
  ·simp [noV]
  ·rw [Ag (c:=bif !true then true else !true) rfl,W7 b,W7 b,if_neg (by simp)]
   by_cases h:p.Op=27
   ·rw [At (eqT h),if_pos h,A1y (by omega),A1y (by omega),ckb (by omega),ckb (by omega),Int.sub_eq_add_neg,Int.sub_eq_add_neg]
   ·rw [Ag (eqF h),if_neg h,ckb (by omega),ckb (by omega)]
theorem A7x (l:List Int) (x:Int):l.foldl (λ(s:Int×Nat) o=>if p.Op=6 then (mn s.1 (f o),0) else (mx s.1 (f o),0)) (x,0)=(if p.Op=6 then l.foldl (λa o=>mn a (f o)) x else l.foldl (λa o=>mx a (f o)) x,0):=by
 induction l generalizing x with
 | nil=>simp
 | cons o l ih =>
  simp only [List.foldl_cons]
  by_cases h:p.Op=6
  ·simp only [if_pos h] at ih ⊢;exact ih _
  ·simp only [if_neg h] at ih ⊢;exact ih _
theorem B1o (h:Swp s R m) (i:0<=k/\k<(R*m:Nat)) (hF:1002<=F) (hd:d.s=s) (p:zA) (b:p.Op=6\/p.Op=7) (l:0<=p.Rays/\p.Rays<=3) (n:0<=p.Gates/\p.Gates<=3) (f:Int->Int) :
  Gc F k p (some d) (tab (R*m) f)=some (Vw p.Op (nbs s.Rays.length s.Site.Gates k p.Rays p.Gates) f):=by
 have key:∀x,Eg F k p (some d) (tab (R*m) f) x=some (if p.Op=6 then (nbs R m k p.Rays p.Gates).foldl (λa o=>mn a (f o)) x else (nbs R m k p.Rays p.Gates).foldl (λa o=>mx a (f o)) x):=by
  intro x;unfold Eg;have:=h.R4;have:=h.m1;rw [A2h (R:=(R:Int)) (m:=(m:Int)) (P:=λ_ _=>True) (f:=λ(s:Int×Nat) o=>if p.Op=6 then (mn s.1 (f o),0) else (mx s.1 (f o),0)) (by rw [hd,h.hR]) (by rw [hd,h.hm]) (by omega) (by omega) ⟨i.1,by rw [←Int.natCast_mul];exact i.2⟩ l n ?_ hF trivial,sbd,A7x]
  ·rfl
  ·intro s o c _ j g _;rw [←Int.natCast_mul] at g;refine ⟨?_,trivial⟩;unfold Jg;rcases b with e|e
   ·rw [At (eqT e),W7 ⟨j,g⟩];simp only [if_pos e];rfl
   ·have n6:p.Op≠6:=by omega
    rw [Ag (eqF n6),W7 ⟨j,g⟩];simp only [if_neg n6];rfl
 unfold Gc Vw;rw [h.hR,h.hm];rcases b with e|e
 ·rw [Ag (eqF (by omega)),key];simp only [if_pos e]
 ·have n6:p.Op≠6:=by omega
  rw [At (eqT e),key];simp only [if_neg n6]
theorem A8u (l:List Int) (x y:Int):l.foldl (λ(s:Int×Int×Nat) o=>(if f o=1 then s.1+1 else s.1,if f o≠3 then s.2.1+1 else s.2.1,0)) (x,y,0)=(x+l.countP (λo=>f o==1),y+l.countP (λo=>f o != 3),0):=by
 induction l generalizing x y with
 | nil=>simp
 | cons o l ih =>
  simp only [List.foldl_cons,List.countP_cons];rw [ih]
  by_cases b:f o=1<;>by_cases c:f o=3<;>simp [b,c]<;>omega
theorem A8v (h:Swp s R m) (g:0<=k/\k<(R*m:Nat)) (hF:1002<=F) (hd:d.s=s) (p:zA) (j:0<=p.Rays/\p.Rays<=3) (l:0<=p.Gates/\p.Gates<=3) (f:Int->Int) :
  Fo F k (some d) p (tab (R*m) f)=some (U5 (nbs s.Rays.length s.Site.Gates k p.Rays p.Gates) f):=by
 unfold Fo;have:=h.R4;have:=h.m1;rw [A2h (R:=(R:Int)) (m:=(m:Int)) (P:=λ(s:Int×Int×Nat) c=>0<=s.1/\s.1<=c/\0<=s.2.1/\s.2.1<=c) (f:=λ(s:Int×Int×Nat) o=>(if f o=1 then s.1+1 else s.1,if f o≠3 then s.2.1+1 else s.2.1,0)) (by rw [hd,h.hR]) (by rw [hd,h.hm]) (by omega) (by omega) ⟨g.1,by rw [←Int.natCast_mul];exact g.2⟩ j l ?_ hF (by simp),sbd,A8u]
 ·rw [At rfl];unfold U5;rw [h.hR,h.hm];simp
 ·intro s o c n i b q;obtain ⟨p1,p2,p3,p4⟩:=n;rw [←Int.natCast_mul] at b;refine ⟨?_,?_⟩
  ·have k2:∀x,E5 (tab (R*m) f) s o x=some ((x,if f o≠3 then s.2.1+1 else s.2.1,0),true):=by
    intro x;unfold E5;rw [W7 ⟨i,b⟩]
    by_cases e:f o=3
    ·rw [Ag (neF e),if_neg (by simp [e])]
    ·rw [At (neT e),ckb (by omega),if_pos e]
   unfold J9;rw [W7 ⟨i,b⟩]
   by_cases e:f o=1
   ·rw [At (eqT e),ckb (by omega),k2,if_pos e]
   ·rw [Ag (eqF e),k2,if_neg e]
  ·dsimp only;refine ⟨?_,?_,?_,?_⟩<;>split<;>omega
theorem A6n {P:α->Prop} {f:α->Int->α} (b:∀a o,P a->P (f a o)):∀(l:List Int) (x:α),P x->P (l.foldl f x):=by
 intro l
 induction l with
 | nil=>intro x h;exact h
 | cons o l ih=>intro x h;exact ih _ (b _ _ h)
theorem A3w {a b:Prop} [Decidable a] [Decidable b]:1<=tri a b/\tri a b<=3:=by unfold tri;split<;>(try split)<;>omega
theorem B15 {op:Int} {x:zC}:1<=Y0 op x y/\Y0 op x y<=3:=by
 unfold Y0
 split
 ·exact A3w
 ·split
  ·exact A3w
  ·split<;>exact A3w
theorem A6w (s:zF):∀(t:T),okT true t->∀k,1<=(t.sem s k).1/\(t.sem s k).1<=3:=by
 intro t
 induction t with
 | leaf op v=>intro h k;simp only [T.sem];split<;>omega
 | un op r g a ih =>
  intro h k;simp only [okT] at h;have ih:=ih h.2;simp only [T.sem]
  split
  ·have:=ih k;omega
  ·unfold Vw
   split
   ·exact A6n (P:=λx=>1<=x/\x<=3) (λa o c=>by have:=ih o;unfold mn;split<;>omega) _ _ (by omega)
   ·exact A6n (P:=λx=>1<=x/\x<=3) (λa o c=>by have:=ih o;unfold mx;split<;>omega) _ _ (by omega)
 | bin op a b iha ihb =>
  intro h k;simp only [okT] at h;simp only [T.sem];rcases h with h|h
  ·have:=iha h.2.1 k;have:=ihb h.2.2 k
   split
   ·unfold mx;split<;>omega
   ·rw [if_pos (by omega)];unfold mn;split<;>omega
  ·rw [if_neg (by omega),if_neg (by omega)];unfold Zo
   split
   ·omega
   ·split<;>exact B15
theorem Pe {f:Int->List Int} {c:Nat} (b:∀x,(f x).length<=c):∀l:List Int,(l.flatMap f).length<=l.length*c:=by
 intro l
 induction l with
 | nil=>simp
 | cons x l ih =>
  rw [List.flatMap_cons,List.length_append,List.length_cons,Nat.add_mul];have:=b x;omega
theorem B1n {R m:Int} (hR:1<=R/\R<=500) (hm:1<=m/\m<=1000) (d:0<=r/\r<=3):(nbs R m k r g).length<=1000000:=by
 have c:∀b,(nb1 R m k g b).length<=1000:=by
  intro b;unfold nb1;refine Nat.le_trans (List.length_filter_le _ _) ?_;rw [List.length_map];unfold irg;rw [List.length_map,List.length_range]
  split<;>split<;>omega
 unfold nbs;refine Nat.le_trans (Pe c _) ?_;have:(if k/m+r-(k/m-r)>=R then irg 0 (R-1) else irg (k/m-r) (k/m+r)).length<=1000:=by
  unfold irg
  split<;>rw [List.length_map,List.length_range]<;>omega
 omega
theorem Zm (h:-2147483648<=x/\x<=2147483648):bdV 1 (pt x):=by unfold bdV pt;dsimp only;omega
theorem A5b:bdV n noV:=by unfold bdV noV;dsimp only;omega
theorem A15 {x:zC} {b:Bool} (h:bdS x):bdV 1 ⟨x,b⟩:=by unfold bdV;unfold bdS at h;dsimp only;omega
theorem Pw {c:Prop} [Decidable c] {x y:zE} (b:c->bdV n x) (d:¬c->bdV n y):bdV n (if c then x else y):=by
 by_cases h:c
 ·rw [if_pos h];exact b h
 ·rw [if_neg h];exact d h
theorem A3t (h:Swp s R m):∀(t:T),okT false t->∀k:Int,0<=k/\k<(R*m:Nat)->bdV t.size (t.sem s k).2:=by
 intro t
 induction t with
 | leaf op v =>
  intro ho k f;obtain ⟨row,-,-,e⟩:=A11 h f;obtain ⟨e1,e2,e3,e4,e5,e6,e7,e8,e9,e10⟩:=e;obtain ⟨a,b,c,d⟩:=km h.m1.1 f;have:=h.R4;have:=h.m1;have:=h.tilt;simp only [okT] at ho;simp only [T.sem,T.size,T3];rw [h.hm];exact Pw (λ_=>Zm (by omega)) λ_=>Pw (λ_=>Zm (by omega)) λ_=>Pw (λ_=>Zm (by omega)) λ_=>Pw (λ_=>Zm (by omega)) λ_=>Pw (λ_=>Zm (by omega)) λ_=>Pw (λ_=>A15 e1) λ_=>Pw (λ_=>A5b) λ_=>Pw (λ_=>A15 e2) λ_=>Pw (λ_=>A15 e3) λ_=>Pw (λ_=>Zm (by omega)) λ_=>Pw (λ_=>A5b) λ_=>Pw (λ_=>A15 e4) λ_=>A15 e5
 | un op r g a ih =>
  intro ho k f;simp only [okT] at ho;simp only [T.sem,T.size,U5];have:=h.R4;have:=h.m1;have i:=B1n (R:=s.Rays.length) (m:=s.Site.Gates) (k:=k) (r:=r) (g:=g) (by rw [h.hR];omega) (by rw [h.hm];omega) (by omega);have j:=List.countP_le_length (p:=λo=>(a.sem s o).1==1) (l:=nbs s.Rays.length s.Site.Gates k r g);have n:=List.countP_le_length (p:=λo=>(a.sem s o).1 != 3) (l:=nbs s.Rays.length s.Site.Gates k r g);have:=a.size_pos;unfold bdV;dsimp only;omega
 | bin op a b iha ihb =>
  intro ho k f;simp only [okT] at ho;have i:=iha ho.2.1 k f;have j:=ihb ho.2.2.1 k f;simp only [T.sem,T.size,A0v]
  split
  ·exact A5b
  ·unfold bdV at *
   split<;>dsimp only<;>omega
section
variable {κ ν:Type} [DecidableEq κ]
theorem B2u (B:List (κ×ν)) (x y:κ) (v:ν):lkM (upM B x v) y=if y=x then some v else lkM B y:=by
 induction B with
 | nil=>unfold upM lkM;split<;>rfl
 | cons p B ih =>
  unfold upM
  by_cases c:x=p.1
  ·rw [if_pos c];unfold lkM
   by_cases b:y=x
   ·simp [b]
   ·simp only [if_neg b];rw [if_neg (by rw [←c];exact b)]
  ·rw [if_neg c];unfold lkM
   by_cases b:y=p.1
   ·rw [if_pos b,if_pos b,if_neg (λe=>c (by rw [←e,b]))]
   ·rw [if_neg b,if_neg b,ih]
end
structure Inv (s:zF) (N:Nat) (d:zH):Prop where
 hs:d.s=s
 hn:d.n=(N:Int)
 ht:∀t l,okT true t->lkM d.tests (tb (textT t))=some l->l=tab N λk=>(t.sem s k).1
 hv:∀t l,okT false t->lkM d.values (tb (textT t))=some l->l=tab N λk=>(t.sem s k).2
section
variable {N:Nat}
theorem Inv.eta (h:Inv s N d) (h':Inv s N d'):zH.mk d.s d.n d'.tests d'.values=d':=by
 cases d;cases d'
 have e1:=h.hs;have e2:=h.hn;have e3:=h'.hs;have e4:=h'.hn;simp only at e1 e2 e3 e4 ⊢;rw [e1,e2,e3,e4]
theorem Inv.upT (h:Inv s N d) (ht:okT true t):Inv s N ⟨d.s,d.n,upM d.tests (tb (textT t)) (tab N λk=>(t.sem s k).1),d.values⟩:=by
 refine ⟨h.hs,h.hn,λt' l c b=>?_,h.hv⟩;rw [B2u] at b
 by_cases e:tb (textT t')=tb (textT t)
 ·rw [if_pos e] at b
  cases A52 c ht (B0p e)
  cases b;rfl
 ·rw [if_neg e] at b;exact h.ht t' l c b
theorem Inv.upV (h:Inv s N d) (ht:okT false t):Inv s N ⟨d.s,d.n,d.tests,upM d.values (tb (textT t)) (tab N λk=>(t.sem s k).2)⟩:=by
 refine ⟨h.hs,h.hn,h.ht,λt' l c b=>?_⟩;rw [B2u] at b
 by_cases e:tb (textT t')=tb (textT t)
 ·rw [if_pos e] at b
  cases A52 c ht (B0p e)
  cases b;rfl
 ·rw [if_neg e] at b;exact h.hv t' l c b
theorem B0t (hd:Inv s N d) (c:N<=1000) (hF:2000<=F) (b:p.Op=1\/p.Op=2):Fs F (some d) p=some (tab N λ_=>if p.Op=1 then 1 else 3):=by
 unfold Fs K5;rw [sbd,Tt (L:=F4 F p) (f:=λi=>Ft F i p) (λ_ _ _ _=>rfl) ?_ (by omega) (by omega) hd.hn (by omega)]
 ·rfl
 ·intro i _ _;show Ft F i p=_;unfold Ft;rcases b with e|e
  ·rw [C5 1 1 (by rw [e];rfl) rfl,if_pos e]
  ·rw [C5 2 3 (by rw [e];rfl) rfl,if_neg (by omega)]
theorem B3v {V:Ak} (hd:Inv s N d) (m:N<=1000) (hF:2000<=F) (b:p.Args=[u]) (c:S d u=some (tab N f,d')) (hd':Inv s N d') (e:∀k,1<=f k/\f k<=3) :
  Kf F S V d p=some (tab N λk=>4-f k,d'):=by
 unfold Kf K6;rw [b,Tr,c,sbd];dsimp only;rw [Tt (L:=F5 F (tab N f)) (f:=λi=>He F i (tab N f)) (g:=λk=>4-f k) (λ_ _ _ _=>rfl) ?_ (by omega) (by omega) hd.hn (by omega),sbd,hd.eta hd'];intro i j l;show He F i _=_;unfold He;have:=e i;rw [W7 ⟨j,l⟩,ckb (by omega)]
theorem B11 {V:Ak} {v:zA} {g:Int->Int} {d1:zH} (hd:Inv s N d) (o:N<=1000) (hF:2000<=F) (m:p.Args=[u,v]) (n:S d u=some (tab N f,d1)) (j:Inv s N d1) (l:S d1 v=some (tab N g,d')) (hd':Inv s N d') :
  Gg F S V d p=some (tab N λk=>if p.Op=4 then mx (f k) (g k) else mn (f k) (g k),d'):=by
 unfold Gg K7;rw [m,Tr,Zu,n,sbd];dsimp only;rw [hd.eta j,l,sbd];dsimp only;rw [Tt (L:=F6 F p (tab N f) (tab N g)) (f:=λi=>Gb F i p (tab N f) (tab N g)) (g:=λk=>if p.Op=4 then mx (f k) (g k) else mn (f k) (g k)) (λ_ _ _ _=>rfl) ?_ (by omega) (by omega) hd.hn (by omega),sbd,hd.eta hd'];intro i b c;show Gb F i p _ _=_;unfold Gb
 by_cases e:p.Op=4
 ·rw [At (eqT e),W7 ⟨b,c⟩,W7 ⟨b,c⟩];simp only [if_pos e];rfl
 ·rw [Ag (eqF e),W7 ⟨b,c⟩,W7 ⟨b,c⟩];simp only [if_neg e];rfl
theorem A9q {V:Ak} (h:Swp s R m) (hd:Inv s (R*m) d) (hF:2000<=F) (c:p.Args=[u]) (b:p.Op=6\/p.Op=7) (e:0<=p.Rays/\p.Rays<=3) (j:0<=p.Gates/\p.Gates<=3) (l:S d u=some (tab (R*m) f,d')) (hd':Inv s (R*m) d') :
  Gh F S V d p=some (tab (R*m) λk=>Vw p.Op (nbs s.Rays.length s.Site.Gates k p.Rays p.Gates) f,d'):=by
 have q:=h.N1;unfold Gh K8;rw [c,Tr,l,sbd];dsimp only;rw [hd.eta hd',Tt (L:=F7 F p (some d') (tab (R*m) f)) (f:=λi=>Gc F i p (some d') (tab (R*m) f)) (g:=λk=>Vw p.Op (nbs s.Rays.length s.Site.Gates k p.Rays p.Gates) f) (λ_ _ _ _=>rfl) (λi n o=>B1o h ⟨n,o⟩ (by omega) hd'.hs p b e j f) (by omega) (by omega) hd.hn (by omega),sbd]
theorem B14 {V:Ak} {v:zA} {f g:Int->zE} {d1:zH} (h:Swp s R m) (hd:Inv s (R*m) d) (hF:2000<=F) (j:p.Args=[u,v]) (b:8<=p.Op/\p.Op<=13) (l:V d u=some (tab (R*m) f,d1)) (c:Inv s (R*m) d1) (e:V d1 v=some (tab (R*m) g,d')) (hd':Inv s (R*m) d') :
  C6 F S V d p=some (tab (R*m) λk=>Zo p.Op (f k) (g k),d'):=by
 have q:=h.N1;unfold C6 K9;rw [j,Tr,Zu,l,sbd];dsimp only;rw [hd.eta c,e,sbd];dsimp only;rw [Tt (L:=F8 F (tab (R*m) f) (tab (R*m) g) p) (f:=λi=>Ed F i (tab (R*m) f) (tab (R*m) g) p) (g:=λk=>Zo p.Op (f k) (g k)) (λ_ _ _ _=>rfl) (λi n o=>B16 ⟨n,o⟩ F p b) (by omega) (by omega) hd.hn (by omega),sbd,hd.eta hd']
theorem A7d (h:Swp s R m) (hd:Inv s (R*m) d) (hF:2000<=F):Fp F (some d) p=some (tab (R*m) λk=>T3 s p.Op p.Value_ k):=by
 have e:=h.N1;unfold Fp Fy;rw [sbd,Tt (L:=Dd F (some (zH.mk d.s d.n [] [])) p) (f:=λi=>Fq F i (some (zH.mk d.s d.n [] [])) p) (g:=λk=>T3 s p.Op p.Value_ k) (λ_ _ _ _=>rfl) (λi b c=>A98 h ⟨b,c⟩ F hd.hs p) (by omega) (by omega) hd.hn (by omega),sbd]
theorem A7a {V:Ak} (h:Swp s R m) (hd:Inv s (R*m) d) (hF:2000<=F) (b:p.Args=[u]) (c:0<=p.Rays/\p.Rays<=3) (e:0<=p.Gates/\p.Gates<=3) (j:S d u=some (tab (R*m) f,d')) (hd':Inv s (R*m) d') :
  Hc F S V d p=some (tab (R*m) λk=>U5 (nbs s.Rays.length s.Site.Gates k p.Rays p.Gates) f,d'):=by
 have o:=h.N1;unfold Hc Fz;rw [b,Tr,j,sbd];dsimp only;rw [hd.eta hd',Tt (L:=De F (some d') p (tab (R*m) f)) (f:=λi=>Fo F i (some d') p (tab (R*m) f)) (g:=λk=>U5 (nbs s.Rays.length s.Site.Gates k p.Rays p.Gates) f) (λ_ _ _ _=>rfl) (λi l n=>A8v h ⟨l,n⟩ (by omega) hd'.hs p c e f) (by omega) (by omega) hd.hn (by omega),sbd]
theorem B2d {V:Ak} {v:zA} {f g:Int->zE} {d1:zH} {b:Nat} (h:Swp s R m) (hd:Inv s (R*m) d) (hF:2000<=F) (o:p.Args=[u,v]) (q:V d u=some (tab (R*m) f,d1)) (c:Inv s (R*m) d1) (e:V d1 v=some (tab (R*m) g,d')) (hd':Inv s (R*m) d')
  (r:∀k:Int,0<=k/\k<(R*m:Nat)->bdV a (f k)) (t:∀k:Int,0<=k/\k<(R*m:Nat)->bdV b (g k)) (j:a+b<=1000000):Hw F S V d p=some (tab (R*m) λk=>A0v p.Op (f k) (g k),d'):=by
 have x:=h.N1;unfold Hw G0;rw [o,Tr,Zu,q,sbd];dsimp only;rw [hd.eta c,e,sbd];dsimp only;rw [Tt (L:=Df F (tab (R*m) f) (tab (R*m) g) p) (f:=λi=>Hf F i (tab (R*m) f) (tab (R*m) g) p) (g:=λk=>A0v p.Op (f k) (g k)) (λ_ _ _ _=>rfl) (λi l n=>B2e ⟨l,n⟩ F p (r i ⟨l,n⟩) (t i ⟨l,n⟩) j) (by omega) (by omega) hd.hn (by omega),sbd,hd.eta hd']
end
section
variable {V:Ak} {key:ByteArray}
theorem A1w (c:Di F p=some key) (b:lkM d.tests key=some l):Bf F S V d p=some (l,d):=by
 unfold Bf;rw [c,sbd,At (by rw [b];rfl),b];rfl
theorem A0c (c:Di F p=some key) {l:List zE} (b:lkM d.values key=some l):By F S V d p=some (l,d):=by
 unfold By;rw [c,sbd,At (by rw [b];rfl),b];rfl
theorem A66 (c:Di F p=some key) (f:lkM d.tests key=none) (b:p.Op=1\/p.Op=2) (h:Fs F (some d) p=some l) :
  Bf F S V d p=some (l,⟨d.s,d.n,upM d.tests key l,d.values⟩):=by
 unfold Bf;rw [c,sbd,Ag (by rw [f];rfl),h,sbd];rcases b with e|e<;>simp only [e]<;>rfl
theorem B0r (c:Di F p=some key) (e:lkM d.tests key=none) (b:p.Op=3) (h:Kf F S V d p=some (l,d')) :
  Bf F S V d p=some (l,⟨d.s,d.n,upM d'.tests key l,d'.values⟩):=by
 unfold Bf;rw [c,sbd,Ag (by rw [e];rfl),h,sbd];simp only [b];rfl
theorem A8a (c:Di F p=some key) (f:lkM d.tests key=none) (b:p.Op=4\/p.Op=5) (h:Gg F S V d p=some (l,d')) :
  Bf F S V d p=some (l,⟨d.s,d.n,upM d'.tests key l,d'.values⟩):=by
 unfold Bf;rw [c,sbd,Ag (by rw [f];rfl),h,sbd];rcases b with e|e<;>simp only [e]<;>rfl
theorem A8b (c:Di F p=some key) (f:lkM d.tests key=none) (b:p.Op=6\/p.Op=7) (h:Gh F S V d p=some (l,d')) :
  Bf F S V d p=some (l,⟨d.s,d.n,upM d'.tests key l,d'.values⟩):=by
 unfold Bf;rw [c,sbd,Ag (by rw [f];rfl),h,sbd];rcases b with e|e<;>simp only [e]<;>rfl
theorem B0q (c:Di F p=some key) (f:lkM d.tests key=none) (b:8<=p.Op/\p.Op<=13) (h:C6 F S V d p=some (l,d')) :
  Bf F S V d p=some (l,⟨d.s,d.n,upM d'.tests key l,d'.values⟩):=by
 have b:p.Op=8\/p.Op=9\/p.Op=10\/p.Op=11\/p.Op=12\/p.Op=13:=by omega
 unfold Bf;rw [c,sbd,Ag (by rw [f];rfl),h,sbd];rcases b with e|e|e|e|e|e<;>simp only [e]<;>rfl
theorem A54 (c:Di F p=some key) (e:lkM d.values key=none) (b:p.Op=25) {l:List zE} (h:Hc F S V d p=some (l,d')) :
  By F S V d p=some (l,⟨d.s,d.n,d'.tests,upM d'.values key l⟩):=by
 unfold By;rw [c,sbd,Ag (by rw [e];rfl),h,sbd,At (eqT b)]
theorem A8d (c:Di F p=some key) (f:lkM d.values key=none) (b:p.Op=26\/p.Op=27) {l:List zE} (h:Hw F S V d p=some (l,d')) :
  By F S V d p=some (l,⟨d.s,d.n,d'.tests,upM d'.values key l⟩):=by
 unfold By;rw [c,sbd,Ag (by rw [f];rfl),h,sbd];rcases b with e|e
 ·rw [Ag (eqF (by omega)),At (eqT e),At (eqT e)]
 ·rw [Ag (eqF (by omega)),Ag (eqF (by omega)),At (eqT e)]
theorem A55 (b:Di F p=some key) (c:lkM d.values key=none) (e:p.Op<25) {l:List zE} (h:Fp F (some d) p=some l) :
  By F S V d p=some (l,⟨d.s,d.n,d.tests,upM d.values key l⟩):=by
 unfold By;rw [b,sbd,Ag (by rw [c];rfl),h,sbd,Ag (eqF (by omega)),Ag (eqF (by omega)),Ag (eqF (by omega))]
end
theorem A65 (F:Nat):Fi (F+1)=Bf F (Fi F) (P1 F):=rfl
theorem A3x (F:Nat):P1 (F+1)=By F (Fi F) (P1 F):=rfl
theorem B27 (h:Swp s R m):∀(t:T) (F:Nat) (d:zH),t.size+2500<=F->t.size<=1000->Inv s (R*m) d ->
  (okT true t->∃d',Fi F d t.node=some (tab (R*m) λk=>(t.sem s k).1,d')/\Inv s (R*m) d') /\
  (okT false t->∃d',P1 F d t.node=some (tab (R*m) λk=>(t.sem s k).2,d')/\Inv s (R*m) d'):=by
 have u:=h.N1;intro t
 induction t with
 | leaf op v =>
  intro F d hF hs hd;obtain ⟨F,rfl⟩:∃G,F=G+1:=⟨F-1,by omega⟩;simp only [T.size] at hF hs;rw [A65,A3x];constructor
  ·intro ht;have i:=Xi _ true F ht (by simp only [T.size];omega) (by simp only [T.size];omega)
   cases c:lkM d.tests (tb (textT (.leaf op v))) with
   | some l=>exact ⟨d,by rw [A1w i c,hd.ht _ l ht c],hd⟩
   | none =>
    have p:op=1\/op=2:=by simp only [okT] at ht;omega
    exact ⟨_,A66 i c p (B0t hd u (by omega) p),hd.upT ht⟩
  ·intro ht;have i:=Xi _ false F ht (by simp only [T.size];omega) (by simp only [T.size];omega)
   cases c:lkM d.values (tb (textT (.leaf op v))) with
   | some l=>exact ⟨d,by rw [A0c i c,hd.hv _ l ht c],hd⟩
   | none =>
    have p:op<25:=by simp only [okT] at ht;omega
    exact ⟨_,A55 i c p (A7d h hd (by omega)),hd.upV ht⟩
 | un op r g a ih =>
  intro F d hF hs hd;obtain ⟨F,rfl⟩:∃G,F=G+1:=⟨F-1,by omega⟩;simp only [T.size] at hF hs;rw [A65,A3x];constructor
  ·intro ht;have i:=Xi _ true F ht (by simp only [T.size];omega) (by simp only [T.size];omega)
   cases c:lkM d.tests (tb (textT (.un op r g a))) with
   | some l=>exact ⟨d,by rw [A1w i c,hd.ht _ l ht c],hd⟩
   | none =>
    have ho:=ht;simp only [okT] at ho;obtain ⟨d',n,f⟩:=(ih F d (by omega) (by omega) hd).1 ho.2;rcases ho.1 with o|o
    ·refine ⟨_,(B0r i c o.1 (B3v hd u (by omega) rfl n f (A6w s a ho.2))).trans ?_,f.upT ht⟩;simp only [T.sem,if_pos o.1,hd.hs,hd.hn,f.hs,f.hn]
    ·refine ⟨_,(A8b i c o.1 (A9q h hd (by omega) rfl o.1 ⟨o.2.1,o.2.2.1⟩ o.2.2.2 n f)).trans ?_,f.upT ht⟩;simp only [T.sem,if_neg (show op≠3 by omega),hd.hs,hd.hn,f.hs,f.hn];rfl
  ·intro ht;have i:=Xi _ false F ht (by simp only [T.size];omega) (by simp only [T.size];omega)
   cases c:lkM d.values (tb (textT (.un op r g a))) with
   | some l=>exact ⟨d,by rw [A0c i c,hd.hv _ l ht c],hd⟩
   | none =>
    have ho:=ht;simp only [okT] at ho;obtain ⟨d',n,f⟩:=(ih F d (by omega) (by omega) hd).1 ho.2;refine ⟨_,(A54 i c ho.1.1 (A7a h hd (by omega) rfl ⟨ho.1.2.1,ho.1.2.2.1⟩ ⟨ho.1.2.2.2.1,ho.1.2.2.2.2⟩ n f)).trans ?_,f.upV ht⟩;simp only [T.sem,hd.hs,hd.hn,f.hs,f.hn];rfl
 | bin op a b iha ihb =>
  intro F d hF hs hd;obtain ⟨F,rfl⟩:∃G,F=G+1:=⟨F-1,by omega⟩;simp only [T.size] at hF hs;rw [A65,A3x];constructor
  ·intro ht;have i:=Xi _ true F ht (by simp only [T.size];omega) (by simp only [T.size];omega)
   cases c:lkM d.tests (tb (textT (.bin op a b))) with
   | some l=>exact ⟨d,by rw [A1w i c,hd.ht _ l ht c],hd⟩
   | none =>
    have ho:=ht;simp only [okT] at ho;rcases ho with o|o
    ·obtain ⟨d1,n,f⟩:=(iha F d (by omega) (by omega) hd).1 o.2.1;obtain ⟨d2,q,j⟩:=(ihb F d1 (by omega) (by omega) f).1 o.2.2;refine ⟨_,(A8a i c o.1 (B11 hd u (by omega) rfl n f q j)).trans ?_,j.upT ht⟩;have e:(λk=>if (T.bin op a b).node.Op=4 then mx (a.sem s k).1 (b.sem s k).1 else mn (a.sem s k).1 (b.sem s k).1)=λk=>((T.bin op a b).sem s k).1:=by
      funext k
      simp only [T.sem,T.node]
      by_cases j:op=4
      ·simp only [if_pos j];exact if_pos j
      ·simp only [if_neg j,if_pos (show op=5 by omega)];exact if_neg j
     rw [e,hd.hs,hd.hn,j.hs,j.hn]
    ·obtain ⟨d1,n,f⟩:=(iha F d (by omega) (by omega) hd).2 o.2.2.1;obtain ⟨d2,q,j⟩:=(ihb F d1 (by omega) (by omega) f).2 o.2.2.2;refine ⟨_,(B0q i c ⟨o.1,o.2.1⟩ (B14 h hd (by omega) rfl ⟨o.1,o.2.1⟩ n f q j)).trans ?_,j.upT ht⟩;simp only [T.sem,if_neg (show op≠4 by omega),if_neg (show op≠5 by omega),hd.hs,hd.hn,j.hs,j.hn];rfl
  ·intro ht;have i:=Xi _ false F ht (by simp only [T.size];omega) (by simp only [T.size];omega)
   cases c:lkM d.values (tb (textT (.bin op a b))) with
   | some l=>exact ⟨d,by rw [A0c i c,hd.hv _ l ht c],hd⟩
   | none =>
    have ho:=ht;simp only [okT] at ho;obtain ⟨d1,n,f⟩:=(iha F d (by omega) (by omega) hd).2 ho.2.1;obtain ⟨d2,q,j⟩:=(ihb F d1 (by omega) (by omega) f).2 ho.2.2.1;refine ⟨_,(A8d i c ho.1 (B2d h hd (by omega) rfl n f q j (A3t h a ho.2.1) (A3t h b ho.2.2.1) (by omega))).trans ?_,j.upV ht⟩;simp only [T.sem,hd.hs,hd.hn,j.hs,j.hn];rfl
def rlN (p:ByteArray×T):zJ:=⟨p.1,p.2.node⟩
def rl (L:List (ByteArray×T)):List zJ:=L.map rlN
theorem Ws (L:List (ByteArray×T)):(rl L).length=L.length:=by simp [rl]
theorem A3o {p:ByteArray×T} (h:L[i]? = some p):(rl L)[i]? = some (rlN p):=by simp [rl,h]
structure GoodR (L:List (ByteArray×T)):Prop where
 len:L.length<=32
 size:(L.map (·.2.size)).sum<=300
 names:∀p∈L,∀F,30<=F->beam_Name F p.1=some true/\sift_word F p.1=some false
 distinct:∀(i j:Nat) (p q:ByteArray×T),L[i]? = some p->L[j]? = some q->i<j->p.1≠q.1
 trees:∀p∈L,okT true p.2/\p.2.depth<=12
theorem B0n {p:ByteArray×T} (h:L[i]? = some p):((L.drop i).map (·.2.size)).sum=p.2.size+((L.drop (i+1)).map (·.2.size)).sum:=by
 obtain ⟨b,c⟩:=List.getElem?_eq_some_iff.1 h;rw [List.drop_eq_getElem_cons b,List.map_cons,List.sum_cons,c]
theorem A12 {p:ByteArray×T} (h:p∈L):p.2.size<=(L.map (·.2.size)).sum:=by
 induction L with
 | nil=>cases h
 | cons q L ih =>
  rw [List.map_cons,List.sum_cons];rcases List.mem_cons.1 h with rfl|h
  ·omega
  ·have:=ih h;omega
theorem A78 {l:List zJ} {r:zJ} (d:l.length<=40) (h:∀(i:Nat) (x:zJ),l[i]? = some x->sEq x.Name r.Name=false):∀(F j:Nat),l.length+1<=F+j->j<=l.length->Ay l r F j=some (-1):=by
 intro F
 induction F with
 | zero=>intro j b c;omega
 | succ F ih =>
  intro j b c;show B0 l r _ j=_;unfold B0
  by_cases hj:j<l.length
  ·rw [At (dT (by omega)),C5 j _ rfl (List.getElem?_eq_getElem hj)];unfold P7;rw [Ag (h j _ (List.getElem?_eq_getElem hj)),ckb (by omega)];exact ih (j+1) (by omega) (by omega)
  ·rw [Ag (dF (by omega))];rfl
theorem A8o (h:GoodR L) (hF:400<=F):J5 F (rl L)=some 0:=by
 have o:=h.len;have l3:∀(n j:Nat),L.length+1<=n+j->j<=L.length->M9 F (rl L) n j=some 0:=by
  intro n
  induction n with
  | zero=>intro j k l;omega
  | succ n ih =>
   intro j k l;show Jr F (rl L) _ j=_;unfold Jr;rw [Ws]
   by_cases hj:j<L.length
   ·have b:=List.getElem?_eq_getElem hj;have hm:=List.getElem_mem hj;generalize L[j]=p at b hm;obtain ⟨n1,n2⟩:=h.names p hm F (by omega);obtain ⟨t1,t2⟩:=h.trees p hm;have m:=Nat.le_trans (A12 hm) h.size;have e1:sift_isCondition (rlN p).When=true:=t1.kind.1;rw [At (dT (by omega)),C5 j _ rfl (A3o b),show beam_Name F (rlN p).Name=some true from n1,sbd,gdT (g:=(!true)==false&&true) rfl,show sift_word F (rlN p).Name=some false from n2,sbd,Ag (c:=bif !true then true else false) rfl,
     show Wb (rl L) 0 (j:Int)=some ((rl L).take j) by unfold Wb;rw [if_pos (by rw [Ws];omega)];simp,sbd]
    unfold B4 Bq;rw [show Ay ((rl L).take j) (rlN p) F 0=some (-1) from A78 (by simp [Ws];omega) (by
     intro i x f;obtain ⟨hi,r⟩:=List.getElem?_eq_some_iff.1 f;have d:i<j:=by simp [Ws] at hi;omega
     rw [List.getElem?_take_of_lt d] at f;have q:=List.getElem?_eq_getElem (show i<L.length by omega);rw [A3o q] at f
     cases f
     have:=h.distinct i j _ _ q b d;exact dF λe=>this (ByteArray.ext (Array.toList_inj.1 e))) F 0 (by simp [Ws];omega) (by omega),sbd,sbd,Ag (c:=decide ((-1:Int)>=0)) rfl,
     show Fg F (rlN p).When=some (p.2.depth:Int) from B1a p.2 F (by omega) (by omega),sbd,Ag (dF (by omega)),e1,gdT (g:=(!true)==false&&true) rfl,show Bs F (rlN p).When=some true from A32 p.2 true F t1 (by omega),sbd,Ag (c:=bif !true then true else !true) rfl,ckb (by omega)]
    exact ih (j+1) (by omega) (by omega)
   ·rw [Ag (dF (by omega))];rfl
 have l4:∀(n j:Nat) (y:Int),L.length+1<=n+j->j<=L.length->0<=y->y+(((L.drop j).map (·.2.size)).sum:Nat)<=300->Ma F (rl L) n j y=some 0:=by
  intro n
  induction n with
  | zero=>intro j y k l;omega
  | succ n ih =>
   intro j y k l t s;show Js F (rl L) _ j y=_;unfold Js;rw [Ws]
   by_cases hj:j<L.length
   ·have b:=List.getElem?_eq_getElem hj;have hm:=List.getElem_mem hj;generalize L[j]=p at b hm;have m:=Nat.le_trans (A12 hm) h.size;rw [B0n b] at s;rw [At (dT (by omega)),C5 j _ rfl (A3o b),show Ct F (rlN p).When 300=some (p.2.size:Int) from A5f p.2 F 300 (by omega) (by omega) (by omega),sbd,ckb (by omega),Ag (dF (by omega)),ckb (by omega)];exact ih (j+1) _ (by omega) (by omega) (by omega) (by omega)
   ·rw [Ag (dF (by omega))];exact l3 F 0 (by omega) (by omega)
 unfold J5;rw [Ws,Ag (dF (by omega))];exact l4 F 0 0 (by omega) (by omega) (by omega) (by rw [List.drop_zero];have:=h.size;omega)
def jv (k:Int):List (Int->Int)->Int->List Int->zL
 | [],_,l=>⟨-1,l⟩
 | f::fs,j,l=>if f k=1 then ⟨j,l⟩ else if f k=2 then jv k fs (j+1) (l++[j]) else jv k fs (j+1) l
def jst (R m:Nat) (g:Int->zL) (a i:Nat):List (List zL) :=
 (List.range R).map λb=>(List.range (if b<a then m else if b=a then i else 0)).map λj=>g ((b*m+j:Nat):Int)
theorem Xa (R m:Nat) (g:Int->zL) (a i:Nat):(jst R m g a i).length=R:=by simp [jst]
theorem A0z {g:Int->zL} {b:Nat} (hb:b<R):(jst R m g a i)[b]? = some ((List.range (if b<a then m else if b=a then i else 0)).map λj=>g ((b*m+j:Nat):Int)):=by
 simp [jst,hb]
theorem A9i {g:Int->zL} :jst R m g a m=jst R m g (a+1) 0:=by
 unfold jst;apply List.map_congr_left;intro b _
 congr 2
 split<;>(try split)<;>(try split)<;>(try split)<;>omega
theorem B1k {g:Int->zL} (c:a<R):(jst R m g a i).set a (((List.range i).map λj=>g ((a*m+j:Nat):Int))++[g ((a*m+i:Nat):Int)])=jst R m g a (i+1):=by
 apply List.ext_getElem?;intro b
 by_cases hb:b<R
 ·rw [A0z hb]
  by_cases e:b=a
  ·subst e;rw [List.getElem?_set_self (by rw [Xa];exact hb),if_neg (by omega),if_pos rfl,List.range_succ,List.map_append];rfl
  ·rw [List.getElem?_set_ne (by omega),A0z hb];simp only [if_neg e]
 ·rw [List.getElem?_eq_none (by rw [List.length_set,Xa];omega),List.getElem?_eq_none (by rw [Xa];omega)]
section
variable {fs:List (Int->Int)}
def Uo (N:Nat) (fs:List (Int->Int)):List (List Int):=fs.map λf=>tab N f
theorem B56 (h:Swp s R m) (k:fs.length<=32) (f:a<R) (hi:i<m) (b:row.length=m) {st:List (List zL)} {k5:List (List zL)->Int->Option (List (List zL)×Int)} {g:Int->zL} (c:st=jst R m g a i) :
  ∀(n j:Nat) (l:List Int),fs.length+1<=n+j->j<=fs.length->l.length<=j->jv ((a*m+i:Nat):Int) (fs.drop j) j l=g ((a*m+i:Nat):Int)->Me (Uo (R*m) fs) a row st i k5 n l j=k5 (jst R m g a (i+1)) ((i:Int)+1):=by
 have t:=h.N1;have u:a*m+i<R*m:=by
  have d:(a+1)*m<=R*m:=Nat.mul_le_mul_right m (by omega);rw [Nat.add_mul] at d;omega
 have hm:=h.m1;have e1:(a:Int)*(m:Int)+(i:Int)=((a*m+i:Nat):Int):=by rw [Int.natCast_add,Int.natCast_mul]
 have e2:(a:Int)*(m:Int)=((a*m:Nat):Int):=(Int.natCast_mul ..).symm;have k7:∀(r:Int) (l:List Int),(⟨r,l⟩:zL)=g ((a*m+i:Nat):Int)->Md a st i k5 r l=k5 (jst R m g a (i+1)) ((i:Int)+1):=by
  intro r l hv;have e:=A0z (R:=R) (m:=m) (g:=g) (a:=a) (i:=i) f;rw [if_neg (by omega),if_pos rfl] at e;unfold Md Rx;rw [c,C5 a _ rfl e,hv];rw [show apd 32 ((List.range i).map λj=>g ((a*m+j:Nat):Int)) [g ((a*m+i:Nat):Int)]=some (((List.range i).map λj=>g ((a*m+j:Nat):Int))++[g ((a*m+i:Nat):Int)]) by
   unfold apd;rw [if_pos (by simp;omega)],sbd,C5 a _ rfl e,show L0 (jst R m g a i) (a:Int) (((List.range i).map λj=>g ((a*m+j:Nat):Int))++[g ((a*m+i:Nat):Int)])=some (jst R m g a (i+1)) by
   unfold L0;rw [if_pos (by rw [Xa];omega),Int.toNat_natCast,B1k f],sbd,ckb (by omega)]
 intro n
 induction n with
 | zero=>intro j l d o;omega
 | succ n ih =>
  intro j l d o v hv;show Ps (Uo (R*m) fs) a row st i k5 _ l j=_;unfold Ps Pu;have p:(Uo (R*m) fs).length=fs.length:=by simp [Uo]
  rw [p]
  by_cases hj:j<fs.length
  ·have q:(Uo (R*m) fs)[j]? = some (tab (R*m) fs[j]):=by simp [Uo,hj]
   rw [List.drop_eq_getElem_cons hj,jv] at hv;rw [At (dT (by omega)),C5 j _ rfl q,b,ckb (by rw [e2];omega),ckb (by rw [e1];omega),e1,W7 ⟨by omega,by omega⟩]
   by_cases c1:fs[j] ((a*m+i:Nat):Int)=1
   ·rw [if_pos c1] at hv;rw [At (eqT c1)];exact k7 _ _ hv
   ·rw [if_neg c1] at hv;rw [Ag (eqF c1)]
    by_cases c2:fs[j] ((a*m+i:Nat):Int)=2
    ·rw [if_pos c2] at hv;rw [At (eqT c2),show apd 8 l [(j:Int)]=some (l++[(j:Int)]) by unfold apd;rw [if_pos (by simp;omega)],sbd,ckb (by omega)];exact ih (j+1) _ (by omega) (by omega) (by simp;omega) hv
    ·rw [if_neg c2] at hv;rw [Ag (eqF c2),ckb (by omega)];exact ih (j+1) _ (by omega) (by omega) (by omega) hv
  ·rw [Ag (dF (by omega))];rw [List.drop_eq_nil_of_le (by omega),jv] at hv;exact k7 _ _ hv
theorem B55 (h:Swp s R m) (c:fs.length<=32) (hF:2000<=F) (d:a<R) (b:row.length=m) {k3:List (List zL)->Int->Option (List (List zL)×Int)} :
  ∀(n i:Nat),m+1<=n+i->i<=m->Ju F (Uo (R*m) fs) a k3 row n (jst R m (λk=>jv k fs 0 []) a i) i=k3 (jst R m (λk=>jv k fs 0 []) (a+1) 0) ((a:Int)+1):=by
 have hm:=h.m1;have hR:=h.R4;intro n
 induction n with
 | zero=>intro i e f;omega
 | succ n ih =>
  intro i e f;show Pr F (Uo (R*m) fs) a k3 row _ _ i=_;unfold Pr;rw [b]
  by_cases hi:i<m
  ·rw [At (dT (by omega)),show Me (Uo (R*m) fs) a row (jst R m (λk=>jv k fs 0 []) a i) i (Ju F (Uo (R*m) fs) a k3 row n) F [] 0=_ from B56 h c d hi b rfl F 0 [] (by omega) (by omega) (by simp) rfl];exact ih (i+1) (by omega) (by omega)
  ·rw [Ag (dF (by omega)),show i=m by omega,A9i];unfold Rw;rw [ckb (by omega)]
theorem B54 (h:Swp s R m) (b:fs.length<=32) (hF:2000<=F) :
  ∀(n a:Nat),R+1<=n+a->a<=R->Jt F s (Uo (R*m) fs) n (jst R m (λk=>jv k fs 0 []) a 0) a=some (jst R m (λk=>jv k fs 0 []) R 0,0):=by
 have hm:=h.m1;have hR:=h.R4;intro n
 induction n with
 | zero=>intro a e f;omega
 | succ n ih =>
  intro a e f;show Pq F s (Uo (R*m) fs) _ _ a=_;unfold Pq;rw [h.hR]
  by_cases c:a<R
  ·have d:a<s.Rays.length:=by rw [h.hR];exact c
   rw [At (dT (by omega)),C5 a _ rfl (List.getElem?_eq_getElem d),show Ju F (Uo (R*m) fs) a (Jt F s (Uo (R*m) fs) n) s.Rays[a] F (jst R m (λk=>jv k fs 0 []) a 0) 0=_ from B55 h b hF c (h.rows _ (List.getElem_mem d)) F 0 (by omega) (by omega)];exact ih (a+1) (by omega) (by omega)
  ·rw [Ag (dF (by omega)),show a=R by omega];rfl
theorem A9j (R m:Nat) (g:Int->zL):List.replicate R ([]:List zL)=jst R m g 0 0:=by
 apply List.ext_getElem?;intro b
 by_cases hb:b<R
 ·rw [A0z hb,List.getElem?_replicate_of_lt hb,if_neg (by omega),ite_self];rfl
 ·rw [List.getElem?_eq_none (by simp;omega),List.getElem?_eq_none (by rw [Xa];omega)]
def Mt (s:zF) (L:List (ByteArray×T)):List (Int->Int):=L.map λp k=>(p.2.sem s k).1
def Y3 (s:zF) (R m:Nat) (L:List (ByteArray×T)):List (List zL) :=
 (List.range R).map λb=>(List.range m).map λj=>jv ((b*m+j:Nat):Int) (Mt s L) 0 []
theorem A9h (R m:Nat) (g:Int->zL):jst R m g R 0=(List.range R).map λb=>(List.range m).map λj=>g ((b*m+j:Nat):Int):=by
 unfold jst;apply List.map_congr_left;intro b hb;rw [if_pos (List.mem_range.1 hb)]
theorem A4f (h:Swp s R m) (d:GoodR L) (hF:3000<=F) (hs:Dn F s=some 0):J6 F (rl L) s=some (Y3 s R m L,0):=by
 have hm:=h.m1;have hR:=h.R4;have x:=h.N1;have g:=d.len;have k1:∀l1 l2,Pt F s l1 l2 (Uo (R*m) (Mt s L))=some (Y3 s R m L,0):=by
  intro l1 l2;unfold Pt;rw [h.hR,show mkI 24 (R:Int) ([]:List zL)=some (List.replicate R []) by unfold mkI;rw [if_pos (by simp only [Int.toNat_natCast];omega),Int.toNat_natCast],sbd,A9j R m (λk=>jv k (Mt s L) 0 [])];rw [show Jt F s (Uo (R*m) (Mt s L)) F (jst R m (λk=>jv k (Mt s L) 0 []) 0 0) 0=_ from B54 h (by simp [Mt];omega) (by omega) F 0 (by omega) (by omega),A9h];rfl
 have l10:∀(y:zH),y.s=s->y.n=(R*m:Nat)->∀(n j:Nat) l1 l2,L.length+1<=n+j->j<=L.length->Inv s (R*m) ⟨y.s,y.n,l1,l2⟩->No F (rl L) s y n l1 l2 j (Uo (R*m) (Mt s (L.take j)))=some (Y3 s R m L,0):=by
  intro y o q n
  induction n with
  | zero=>intro j l1 l2 r u;omega
  | succ n ih =>
   intro j l1 l2 r u i;show Nn F (rl L) s y _ l1 l2 j _=_;unfold Nn;rw [Ws]
   by_cases hj:j<L.length
   ·have e:=List.getElem?_eq_getElem hj;have b:=List.getElem_mem hj;have c:L.take (j+1)=L.take j++[L[j]]:=by rw [List.take_add_one,e];rfl
    generalize L[j]=p at e b c;have v:=Nat.le_trans (A12 b) d.size;obtain ⟨d',q1,q2⟩:=(B27 h p.2 F ⟨y.s,y.n,l1,l2⟩ (by omega) (by omega) i).1 (d.trees p b).1;rw [At (dT (by omega)),C5 j _ rfl (A3o e),show Fi F ⟨y.s,y.n,l1,l2⟩ (rlN p).When=_ from q1,sbd];dsimp only;rw [show apd 24 (Uo (R*m) (Mt s (L.take j))) [tab (R*m) λk=>(p.2.sem s k).1]=some (Uo (R*m) (Mt s (L.take (j+1)))) by
     unfold apd;rw [if_pos (by simp [Uo,Mt];omega),c];simp [Uo,Mt],sbd,ckb (by omega)]
    refine ih (j+1) d'.tests d'.values (by omega) (by omega) ?_;have:=i.eta q2;rw [this];exact q2
   ·rw [Ag (dF (by omega)),show j=L.length by omega,List.take_length];exact k1 _ _
 unfold J6 Qz;rw [A8o d (by omega),sbd,Ag (neF rfl),hs,sbd,Ag (neF rfl),h.hR,h.hm,ckb (by rw [←Int.natCast_mul];omega),sbd];exact l10 _ rfl (Int.natCast_mul ..).symm F 0 [] [] (by omega) (by omega) ⟨rfl,(Int.natCast_mul ..).symm,(λt l _ f=>by cases f),(λt l _ f=>by cases f)⟩
end
def T.noRay:T->Prop
 | .leaf op _=>op≠22
 | .un _ _ _ a=>a.noRay
 | .bin _ a b=>a.noRay/\b.noRay
structure Mean (k ray:Bool) (d:Nat) (t:T):Prop where
 ok:okT k t
 size:t.size+1<=2 ^ d
 depth:t.depth<=d
 one:d=1->t.op<26
 ray:ray=false->t.noRay
def nms:List ByteArray:=[(⟨#[97]⟩:ByteArray),(⟨#[98,49]⟩:ByteArray),(⟨#[99,95]⟩:ByteArray),(⟨#[100,100,100,100,100,100,100,100,100,100,100,100]⟩:ByteArray)]
structure MeanR (ray:Bool) (L:List (ByteArray×T)):Prop where
 len:L.length<=4
 names:∀(i:Nat) p,L[i]? = some p->nms[i]? = some p.1
 trees:∀p∈L,Mean true ray 5 p.2
theorem A3j {x y:Bool} (b:x=false) (c:y=false):(bif x then true else y)=false:=by rw [b,c];rfl
section
variable {f:zA->Option zA} {v u' v':zA}
end
section
variable {f:zA->Option Bool} {v:zA}
end
section
variable {f:zA->zA->Option Bool} {v:zA}
end
theorem A5x (l:List Int) (d:l.length<=1000) (hF:1001<=F):Jq F l l=some true:=by
 have go:∀(n j:Nat),l.length+1<=n+j->j<=l.length->Kc l l n j=some true:=by
  intro n
  induction n with
  | zero=>intro j b c;omega
  | succ n ih =>
   intro j b c;show Kb l l _ j=_;unfold Kb
   by_cases hj:j<l.length
   ·rw [At (dT (by omega)),C5 j _ rfl (List.getElem?_eq_getElem hj),C5 j _ rfl (List.getElem?_eq_getElem hj),Ag (neF rfl),ckb (by omega)];exact ih (j+1) (by omega) (by omega)
   ·rw [Ag (dF (by omega))];rfl
 unfold Jq;rw [Ag (neF rfl)];exact go F 0 (by omega) (by omega)
theorem B3p (k:Int):∀(fs:List (Int->Int)) (j:Int) (l:List Int),(jv k fs j l).Doubts.length<=l.length+fs.length:=by
 intro fs
 induction fs with
 | nil=>intro j l;simp [jv]
 | cons f fs ih =>
  intro j l;rw [jv,List.length_cons]
  split
  ·dsimp only;omega
  ·split
   ·have:=ih (j+1) (l++[j]);rw [List.length_append,List.length_singleton] at this;omega
   ·have:=ih (j+1) l;omega
def nameB (s:ByteArray):Bool:=(!(sEq s ⟨#[]⟩))&&(decide ((s.size:Int)<=12)&&(decide ((Ts s 0).getD 0>=97)&&(decide ((Ts s 0).getD 0<=122)&&!A9t s)))
theorem Xf (F:Nat) (s:ByteArray):beam_Name F s=some (nameB s):=by
 have f:sEq s ⟨#[]⟩=false->Ts s 0=some ((Ts s 0).getD 0):=by
  intro h;have hs:s.size≠0:=by
   intro h0;have:s=⟨#[]⟩:=by
    cases s with
    | mk d =>
     have:d=#[]:=Array.eq_empty_of_size_eq_zero h0;rw [this]
   rw [Zg.2 this] at h
   cases h
  unfold Ts;rw [if_pos (by omega)];rfl
 unfold beam_Name nameB Jp
 cases g:sEq s ⟨#[]⟩ with
 | true=>simp [gd]
 | false =>
  have e:=f g;generalize i:(Ts s 0).getD 0=u at e ⊢;rw [e]
  by_cases b:(s.size:Int)<=12
  ·by_cases c:u>=97
   ·simp [gd,b,c]
   ·simp [gd,b,c]
  ·simp [gd,b]
theorem B19 (n b0 b1 b2 b3:Nat) (h:128<=b0):128<=(Lib.decodeN n b0 b1 b2 b3).1:=by
 unfold Lib.decodeN
 repeat' split
 all_goals first|(simp only;omega)|omega
theorem B3i {s:ByteArray} (h:(s.get! i).toNat<128):Utf8.decode s i=((s.get! i).toNat,1):=by
 rw [Lib.decode_at];unfold Lib.decodeN;rw [if_pos h]
theorem B3h {s:ByteArray} (h:128<=(s.get! i).toNat):128<=(Utf8.decode s i).1:=by
 rw [Lib.decode_at];exact B19 _ _ _ _ _ h
theorem A9s {x:Nat} (h:128<=x):nmC x=true:=by
 unfold nmC;have b:decide (x<=122)=false:=by simp;omega
 have c:decide (x<=57)=false:=by simp;omega
 have d:(x==95)=false:=by simp;omega
 rw [b,c,d];simp
theorem A0w (s:ByteArray):∀(f pos:Nat),s.size<=pos+f->(0<=Lib.idxFuncFrom nmC true s f pos↔∃j,pos<=j/\j<s.size/\nmC (s.get! j).toNat=true):=by
 intro f
 induction f with
 | zero =>
  intro pos h;rw [Lib.idxFuncFrom_end nmC true s 0 pos (by omega)];constructor
  ·intro h;omega
  ·rintro ⟨j,e,b,_⟩;omega
 | succ f ih =>
  intro pos h;rw [Lib.idxFuncFrom]
  by_cases c:pos<s.size
  ·rw [if_pos c]
   by_cases hb:(s.get! pos).toNat<128
   ·rw [B3i hb];simp only
    by_cases hn:nmC (s.get! pos).toNat=true
    ·rw [if_pos hn];exact ⟨λ_=>⟨pos,Nat.le_refl _,c,hn⟩,λ_=>by omega⟩
    ·rw [if_neg hn,ih (pos+1) (by omega)];constructor
     ·rintro ⟨j,e,b,d⟩;exact ⟨j,by omega,b,d⟩
     ·rintro ⟨j,e,b,d⟩;refine ⟨j,?_,b,d⟩;rcases Nat.lt_or_ge pos j with g|g
      ·omega
      ·obtain rfl:j=pos:=by omega
       exact absurd d hn
   ·rw [if_pos (A9s (B3h (by omega)))];exact ⟨λ_=>⟨pos,Nat.le_refl _,c,A9s (by omega)⟩,λ_=>by omega⟩
  ·rw [if_neg c];constructor
   ·intro h;omega
   ·rintro ⟨j,e,b,_⟩;omega
theorem B1h {s:ByteArray} (h:i<s.size):s[i]=s.get! i:=by
 cases s with
 | mk d =>
  show d[i]=d[i]!;rw [getElem!_pos d i h]
theorem A6p {s:ByteArray} (h:i<s.size):Ts s i=some (((s.get! i).toNat:Nat):Int):=by
 unfold Ts;rw [if_pos (by omega),Int.toNat_natCast,getElem!_pos s i h,B1h h]
theorem A7v (s:ByteArray):∀(m i f:Nat),s.size-i<m->i<=s.size->s.size<=1000000->s.size<=i+f->M6 s m i=some (!decide (0<=Lib.idxFuncFrom nmC true s f i)):=by
 intro m
 induction m with
 | zero=>intro i f h;omega
 | succ m ih =>
  intro i f h hi l d;rw [M6,Rn]
  by_cases hb:i<s.size
  ·rw [At (dT (by omega)),A6p hb,sbd];have o:=UInt8.toNat_lt (s.get! i);generalize g:(s.get! i).toNat=u at *;have e:(bif (bif (bif (decide (((u:Nat):Int)<97)) then true else (decide (((u:Nat):Int)>122))) then (bif (decide (((u:Nat):Int)<48)) then true else (decide (((u:Nat):Int)>57))) else false) then (((u:Nat):Int) != 95) else false)=nmC u:=by
    unfold nmC;rw [Bool.eq_iff_iff];simp only [cond_eq_ite,Bool.if_true_left,Bool.and_eq_true,Bool.or_eq_true,decide_eq_true_eq,bne_iff_ne,ne_eq,Bool.not_eq_true',Bool.or_eq_false_iff,Bool.and_eq_false_iff,decide_eq_false_iff_not,beq_eq_false_iff_ne,Bool.if_false_right];omega
   rw [e]
   by_cases hn:nmC u=true
   ·rw [At hn,dT ((A0w s f i d).2 ⟨i,Nat.le_refl _,hb,by rw [g];exact hn⟩)];rfl
   ·rw [Ag (by simpa using hn),ckb (by omega),show ((i:Int)+1)=((i+1:Nat):Int) by omega,ih (i+1) f (by omega) (by omega) l (by omega)];rw [decide_eq_decide.2];rw [A0w s f (i+1) (by omega),A0w s f i d];constructor
    ·rintro ⟨j,k,c,b⟩;exact ⟨j,by omega,c,b⟩
    ·rintro ⟨j,k,c,b⟩;refine ⟨j,?_,c,b⟩;rcases Nat.lt_or_ge i j with n|n
     ·omega
     ·obtain rfl:j=i:=by omega
      rw [g] at b;exact absurd b hn
  ·rw [Ag (dF (by omega)),Ro,dF]
   ·rfl
   ·rw [A0w s f i d];rintro ⟨j,k,c,_⟩;omega
theorem B26 (s:ByteArray):sEq s ⟨#[]⟩=decide (s.size=0):=by
 unfold sEq
 cases s with
 | mk d =>
  show decide (d.toList=[])=decide (d.size=0);rw [decide_eq_decide];constructor
  ·intro h;have:=congrArg List.length h;simpa using this
  ·intro h;rw [Array.eq_empty_of_size_eq_zero h]
theorem A4k (hF:100<=F) (s:ByteArray):Re F s=some (nameB s):=by
 rw [Re];unfold nameB A9t;rw [B26]
 by_cases d:s.size=0\/s.size>12
 ·have b:(bif (decide (((s.size:Nat):Int)<1)) then true else (decide (((s.size:Nat):Int)>12)))=true:=by
   rcases d with h|h
   ·rw [dT (by omega)];rfl
   ·rw [dT (show ((s.size:Nat):Int)>12 by omega)];cases decide (((s.size:Nat):Int)<1)<;>rfl
  rw [b,gdF (by rfl),sbd,At (c:=true) rfl,gdF (by rfl),sbd];simp only [cond_true];rcases d with h|h
  ·rw [dT h];rfl
  ·rw [dF (show ¬((s.size:Nat):Int)<=12 by omega)];cases decide (s.size=0)<;>rfl
 ·have b:(bif (decide (((s.size:Nat):Int)<1)) then true else (decide (((s.size:Nat):Int)>12)))=false:=by
   rw [dF (by omega),dF (by omega)];rfl
  have g:Ts s 0=some (((s.get! 0).toNat:Nat):Int):=A6p (i:=0) (by omega);rw [b,gdT (by rfl),g,sbd,Ag (c:=false) rfl,dF (show ¬s.size=0 by omega),dT (show ((s.size:Nat):Int)<=12 by omega)];rw [Option.getD_some];generalize j:(((s.get! 0).toNat:Nat):Int)=u
  by_cases e:u<97
  ·rw [dT e,gdF (by rfl),sbd,At (c:=true) rfl,At (c:=true) rfl,dF (show ¬u>=97 by omega)];rfl
  ·rw [dF e,gdT (by rfl),sbd,Ag (c:=false) rfl,dT (show u>=97 by omega)]
   by_cases f:u>122
   ·rw [dT f,At (c:=true) rfl,dF (show ¬u<=122 by omega)];rfl
   ·rw [dF f,Ag (c:=false) rfl,dT (show u<=122 by omega),show (0:Int)=((0:Nat):Int) from rfl,A7v s F 0 s.size (by omega) (by omega) (by omega) (by omega)];rfl
mutual
def cv:zG->zA
 | ⟨o,v,r,g,a⟩=>⟨o,v,r,g,cvL a⟩
def cvL:List zG->List zA
 | []=>[]
 | x::l=>cv x::cvL l
end
mutual
def nds:zG->Nat
 | ⟨_,_,_,_,a⟩=>1+Vd a
def Vd:List zG->Nat
 | []=>0
 | x::l=>nds x+Vd l
end
mutual
def dpt:zG->Nat
 | ⟨_,_,_,_,a⟩=>1+A0q a
def A0q:List zG->Nat
 | []=>0
 | x::l=>max (dpt x) (A0q l)
end
theorem A46 (n:zG):cv n=⟨n.Op,n.Value_,n.Rays,n.Gates,cvL n.Args⟩:=by cases n;rfl
theorem Wi (n:zG):nds n=1+Vd n.Args:=by cases n;rfl
theorem A91 (n:zG):dpt n=1+A0q n.Args:=by cases n;rfl
theorem Yx:∀l:List zG,(cvL l).length=l.length
 | []=>rfl
 | x::l=>by show (cvL l).length+1=_;rw [Yx l];rfl
theorem Yw:∀{l:List zG} {i:Nat} {x:zG},l[i]? = some x->(cvL l)[i]? = some (cv x)
 | [],i,x,h=>by simp at h
 | y::l,0,x,h=>by cases h;rfl
 | y::l,i+1,x,h=>by
  have:l[i]? = some x:=h;exact Yw (l:=l) this
theorem T5:∀{l:List zG} {x:zG},x∈l->nds x<=Vd l
 | y::l,x,h=>by
  show nds x<=nds y+Vd l;rcases List.mem_cons.1 h with rfl|h
  ·omega
  ·have:=T5 h;omega
theorem A10 (n:zG):1<=nds n:=by rw [Wi];omega
theorem Wh:∀l:List zG,l.length<=Vd l
 | []=>Nat.le_refl _
 | x::l=>by have:=Wh l;have:=A10 x;show l.length+1<=nds x+Vd l;omega
theorem A2w:∀{l:List zG} {i:Nat} {x:zG},l[i]? = some x->Vd (l.drop i)=nds x+Vd (l.drop (i+1)):=by
 intro l i x h;obtain ⟨b,c⟩:=List.getElem?_eq_some_iff.1 h;rw [List.drop_eq_getElem_cons b,c];rfl
theorem A9p {P:zG->Prop} (h:∀n,(∀x∈n.Args,P x)->P n):∀n,P n
 | ⟨o,v,r,g,a⟩=>h ⟨o,v,r,g,a⟩ λx b=>A9p h x
termination_by n=>SizeOf.sizeOf n
decreasing_by
 have c:=List.sizeOf_lt_of_mem b;simp +arith at *;omega
theorem A5j:∀(n:zG),dpt n<=nds n:=by
 refine A9p λn ih=>?_;have go:∀l:List zG,(∀x∈l,dpt x<=nds x)->A0q l<=Vd l:=by
  intro l
  induction l with
  | nil=>intro _;exact Nat.le_refl _
  | cons x l ih =>
   intro h;show max (dpt x) (A0q l)<=nds x+Vd l;have:=h x (by simp);have:=ih λy b=>h y (by simp [b]);omega
 have:=go n.Args ih;have e1:=A91 n;have e2:=Wi n;omega
def cnt (m:Nat) (n:zG):Nat:=min (nds n) (m+1)
theorem A1j:∀(m F:Nat) (n:zG),m<=1000000->m+4<=F->E3 F n m=some (cnt m n:Int):=by
 intro m
 induction m using Nat.strongRecOn with
 | _ m ih =>
  intro F n hm hF;obtain ⟨F,rfl⟩:∃G,F=G+1:=⟨F-1,by omega⟩;show Km (E3 F) n m F 1 0=_;have go:∀(k i c:Nat),i+1<=c->m+2<=k+c->c<=m+1->i<=n.Args.length->Km (E3 F) n m k c i=some ((min (c+Vd (n.Args.drop i)) (m+1):Nat):Int):=by
   intro k
   induction k with
   | zero=>intro i c h0 d e;omega
   | succ k ihk =>
    intro i c h0 d e j;show Nl (E3 F) n m _ c i=_;unfold Nl Qt
    by_cases hi:i<n.Args.length
    ·by_cases l:c<=m
     ·have b:=List.getElem?_eq_getElem hi;generalize n.Args[i]=x at b;have hs:=ih (m-c) (by omega) F x (by omega) (by omega);rw [show ((m-c:Nat):Int)=(m:Int)-c by omega] at hs;have f:cnt (m-c) x<=m-c+1:=by unfold cnt;omega
      have g:1<=cnt (m-c) x:=by have:=A10 x;unfold cnt;omega
      rw [dT (show (i:Int)<(n.Args.length:Int) by omega),dT (show (c:Int)<=m by omega),At (c:=bif true then true else false) rfl,C5 i x rfl b,ckb (by omega),hs,sbd,ckb (by omega),ckb (by omega),A2w b];have:=ihk (i+1) (c+cnt (m-c) x) (by omega) (by omega) (by omega) (by omega);rw [show ((c:Int)+(cnt (m-c) x:Nat))=((c+cnt (m-c) x:Nat):Int) by omega,show (i:Int)+1=((i+1:Nat):Int) by omega,this]
      congr 2
      unfold cnt;omega
     ·rw [dT (show (i:Int)<(n.Args.length:Int) by omega),dF (show ¬(c:Int)<=m by omega),Ag (c:=bif true then false else false) rfl]
      congr 2
      omega
    ·rw [dF (show ¬(i:Int)<(n.Args.length:Int) by omega),Ag (c:=bif false then decide ((c:Int)<=m) else false) rfl,List.drop_eq_nil_of_le (by omega)]
     congr 2
     show c=min (c+0) (m+1);omega
  have:=go F 0 1 (by omega) (by omega) (by omega) (by omega);rw [List.drop_zero] at this;rw [show (1:Int)=((1:Nat):Int) from rfl,show (0:Int)=((0:Nat):Int) from rfl,this,cnt,Wi]
theorem A8w:∀(m F:Nat) (n:zG),m<=1000000->m+4<=F->Ct F (cv n) m=some (cnt m n:Int):=by
 intro m
 induction m using Nat.strongRecOn with
 | _ m ih =>
  intro F n hm hF;obtain ⟨F,rfl⟩:∃G,F=G+1:=⟨F-1,by omega⟩;rw [A46];show Cg (Ct F) ⟨n.Op,n.Value_,n.Rays,n.Gates,cvL n.Args⟩ m F 0 1=_;have d:=Yx n.Args;have go:∀(k i c:Nat),i+1<=c->m+2<=k+c->c<=m+1->i<=n.Args.length->Cg (Ct F) ⟨n.Op,n.Value_,n.Rays,n.Gates,cvL n.Args⟩ m k i c=some ((min (c+Vd (n.Args.drop i)) (m+1):Nat):Int):=by
   intro k
   induction k with
   | zero=>intro i c h0 e f;omega
   | succ k ihk =>
    intro i c h0 e f l;show Fj (Ct F) ⟨n.Op,n.Value_,n.Rays,n.Gates,cvL n.Args⟩ m _ i c=_;unfold Fj M0;dsimp only;rw [d]
    by_cases hi:i<n.Args.length
    ·have b:=List.getElem?_eq_getElem hi;generalize n.Args[i]=x at b
     by_cases o:c<=m
     ·have hs:=ih (m-c) (by omega) F x (by omega) (by omega);rw [show ((m-c:Nat):Int)=(m:Int)-c by omega] at hs;have g:cnt (m-c) x<=m-c+1:=by unfold cnt;omega
      have j:1<=cnt (m-c) x:=by have:=A10 x;unfold cnt;omega
      rw [At (dT (by omega)),C5 i (cv x) rfl (Yw b),Ag (dF (by omega)),ckb (by omega),hs,sbd,ckb (by omega),ckb (by omega),A2w b];have:=ihk (i+1) (c+cnt (m-c) x) (by omega) (by omega) (by omega) (by omega);rw [show ((c:Int)+(cnt (m-c) x:Nat))=((c+cnt (m-c) x:Nat):Int) by omega,show (i:Int)+1=((i+1:Nat):Int) by omega,this]
      congr 2
      unfold cnt;omega
     ·rw [At (dT (by omega)),C5 i (cv x) rfl (Yw b),At (dT (by omega))]
      congr 2
      omega
    ·rw [Ag (dF (by omega)),List.drop_eq_nil_of_le (by omega)]
     congr 2
     show c=min (c+0) (m+1);omega
  have:=go F 0 1 (by omega) (by omega) (by omega) (by omega);rw [List.drop_zero] at this;rw [show (1:Int)=((1:Nat):Int) from rfl,show (0:Int)=((0:Nat):Int) from rfl,this,cnt,Wi]
theorem A2n:∀{l:List zG} {i:Nat} {x:zG},l[i]? = some x->A0q (l.drop i)=max (dpt x) (A0q (l.drop (i+1))):=by
 intro l i x h;obtain ⟨b,c⟩:=List.getElem?_eq_some_iff.1 h;rw [List.drop_eq_getElem_cons b,c];rfl
theorem A8z:∀(F:Nat) (n:zG),nds n<=1000000->nds n+3<=F->H9 F n=some (dpt n:Int)/\Fg F (cv n)=some (dpt n:Int):=by
 intro F
 induction F with
 | zero=>intro n _ h;omega
 | succ F ih =>
  intro n e m;have hn:=Wi n;have f:=Wh n.Args;have hd:=A91 n;have d:∀(i:Nat) x,n.Args[i]? = some x->H9 F x=some (dpt x:Int)/\Fg F (cv x)=some (dpt x:Int):=by
   intro i x b;have:=T5 (List.mem_of_getElem? b);exact ih x (by omega) (by omega)
  constructor
  ·have go:∀(k i c:Nat),n.Args.length+1<=k+i->i<=n.Args.length->c<=1000000->Kk (H9 F) n k c i=some ((1+max c (A0q (n.Args.drop i)):Nat):Int):=by
    intro k
    induction k with
    | zero=>intro i c h0 e;omega
    | succ k ihk =>
     intro i c h0 g j;show Ng (H9 F) n _ c i=_;unfold Ng Qo
     by_cases hi:i<n.Args.length
     ·have b:=List.getElem?_eq_getElem hi;generalize n.Args[i]=x at b;have hb:=A5j x;have:=T5 (List.mem_of_getElem? b);rw [At (dT (by omega)),C5 i x rfl b,(d i x b).1,sbd,ckb (by omega),A2n b];have:=ihk (i+1) (max c (dpt x)) (by omega) (by omega) (by omega);rw [show (if (dpt x:Int)>c then (dpt x:Int) else c)=((max c (dpt x):Nat):Int) by split<;>omega,show (i:Int)+1=((i+1:Nat):Int) by omega,this]
      congr 2
      omega
     ·rw [Ag (dF (by omega)),List.drop_eq_nil_of_le (by omega),ckb (by omega)]
      congr 1
      show (1:Int)+c=((1+max c 0:Nat):Int);omega
   have:=go F 0 0 (by omega) (by omega) (by omega);rw [List.drop_zero] at this;show Kk (H9 F) n F 0 0=_;rw [show (0:Int)=((0:Nat):Int) from rfl,this]
   congr 2;omega
  ·have l:=Yx n.Args;rw [A46];have go:∀(k i c:Nat),n.Args.length+1<=k+i->i<=n.Args.length->c<=1000000->E9 (Fg F) ⟨n.Op,n.Value_,n.Rays,n.Gates,cvL n.Args⟩ k c i=some ((1+max c (A0q (n.Args.drop i)):Nat):Int):=by
    intro k
    induction k with
    | zero=>intro i c h0 e;omega
    | succ k ihk =>
     intro i c h0 g j;show Jn (Fg F) ⟨n.Op,n.Value_,n.Rays,n.Gates,cvL n.Args⟩ _ c i=_;unfold Jn Qx;dsimp only;rw [l]
     by_cases hi:i<n.Args.length
     ·have b:=List.getElem?_eq_getElem hi;generalize n.Args[i]=x at b;have hb:=A5j x;have:=T5 (List.mem_of_getElem? b);rw [At (dT (by omega)),C5 i (cv x) rfl (Yw b),(d i x b).2,sbd,ckb (by omega),A2n b];have:=ihk (i+1) (max c (dpt x)) (by omega) (by omega) (by omega);rw [show (if (dpt x:Int)>c then (dpt x:Int) else c)=((max c (dpt x):Nat):Int) by split<;>omega,show (i:Int)+1=((i+1:Nat):Int) by omega,this]
      congr 2
      omega
     ·rw [Ag (dF (by omega)),List.drop_eq_nil_of_le (by omega),ckb (by omega)]
      congr 1
      show (c:Int)+1=((1+max c 0:Nat):Int);omega
   have:=go F 0 0 (by omega) (by omega) (by omega);rw [List.drop_zero] at this;show E9 (Fg F) ⟨n.Op,n.Value_,n.Rays,n.Gates,cvL n.Args⟩ F 0 0=_;rw [show (0:Int)=((0:Nat):Int) from rfl,this]
   congr 2;omega
theorem A8y {l:List zG} {x:zG} (h:l[i]? = some x):cvL (l.take (i+1))=cvL (l.take i)++[cv x]:=by
 rw [List.take_add_one,h];have:∀(a:List zG) (y:zG),cvL (a++[y])=cvL a++[cv y]:=by
  intro a y
  induction a with
  | nil=>rfl
  | cons z a ih=>show cv z::cvL (a++[y])=_;rw [ih];rfl
 exact this _ _
theorem B1q:∀(F:Nat) (n:zG),nds n<=1000000->nds n+3<=F->Mv F n=some (cv n):=by
 intro F
 induction F with
 | zero=>intro n _ h;omega
 | succ F ih =>
  intro n c e;have hn:=Wi n;have d:=Wh n.Args;have go:∀(k i:Nat),n.Args.length+1<=k+i->i<=n.Args.length->Pg (Mv F) n k (cvL (n.Args.take i)) i=some (cv n):=by
   intro k
   induction k with
   | zero=>intro i h0 c;omega
   | succ k ihk =>
    intro i h0 f;show Pf (Mv F) n _ _ i=_;unfold Pf Rl
    by_cases hi:i<n.Args.length
    ·have b:=List.getElem?_eq_getElem hi;generalize n.Args[i]=x at b;have:=T5 (List.mem_of_getElem? b);rw [At (dT (by omega)),C5 i x rfl b,ih x (by omega) (by omega),sbd,show apd 56 (cvL (n.Args.take i)) [cv x]=some (cvL (n.Args.take (i+1))) by
      unfold apd;rw [if_pos (by rw [Yx];simp;omega),A8y b],sbd,ckb (by omega)]
     exact ihk (i+1) (by omega) (by omega)
    ·rw [Ag (dF (by omega)),List.take_of_length_le (by omega),A46]
  exact go F 0 (by omega) (by omega)
def cvR (p:zN):zJ:=⟨p.Name,cv p.When⟩
theorem B0c {l:List zN} (c:l.length<=1000) (hn:∀p∈l,nds p.When<=1000) (hF:2000<=F):Q7 F l=some (l.map cvR):=by
 have go:∀(k i:Nat),l.length+1<=k+i->i<=l.length->Mx F l k ((l.take i).map cvR) i=some (l.map cvR):=by
  intro k
  induction k with
  | zero=>intro i h0 d;omega
  | succ k ihk =>
   intro i h0 e;show Mw F l _ _ i=_;unfold Mw Qg
   by_cases hi:i<l.length
   ·have b:=List.getElem?_eq_getElem hi;have hm:=List.getElem_mem hi;generalize l[i]=x at b hm;rw [At (dT (by omega)),C5 i x rfl b,C5 i x rfl b,B1q F x.When (by have:=hn x hm;omega) (by have:=hn x hm;omega),sbd,show apd 72 ((l.take i).map cvR) [(⟨x.Name,cv x.When⟩:zJ)]=some ((l.take (i+1)).map cvR) by
     unfold apd;rw [if_pos (by simp;omega),List.take_add_one,b,List.map_append];rfl,sbd,ckb (by omega)]
    exact ihk (i+1) (by omega) (by omega)
   ·rw [Ag (dF (by omega)),List.take_of_length_le (by omega)]
 exact go F 0 (by omega) (by omega)
end Go.Proofs.YtkjnafecmjakcaaGreatDoor
namespace Go.Proofs.YtkjnafecmjakcaaGreatDoor
open Go Go.RowKit Go.Eng
set_option maxRecDepth 10000
variable {β α:Type} {x g r v b k:Int} {f:Int->Int} {d d':zH} {y:zC} {p u:zA} {l:List Int} {i m n a F R:Nat} {self_:zA->Option Bool} {t:T} {L:List (ByteArray×T)} {s:zF} {S:Am} {V:Int->zL} {row:List zD}
theorem A9c {L:List ByteArray} {p:ByteArray} (d:L.length<=100) (h:∀x∈L,sEq p x=false):∀(n j:Nat),L.length+1<=n+j->j<=L.length->C7 L p n j=some (-1):=by
 intro n
 induction n with
 | zero=>intro j b c;omega
 | succ n ih =>
  intro j b c;show Cr L p _ j=_;unfold Cr
  by_cases hj:j<L.length
  ·rw [At (dT (by omega)),C5 j _ rfl (List.getElem?_eq_getElem hj),Ag (h _ (List.getElem_mem hj)),ckb (by omega)];exact ih (j+1) (by omega) (by omega)
  ·rw [Ag (dF (by omega))];rfl
theorem B3d {op:Int} (h:8<=op/\op<=13):op=8\/op=9\/op=10\/op=11\/op=12\/op=13:=by omega
section
variable {P:Aj} {ops:List Int}
end
theorem B01 {op:Int} (h:1<=op/\op<=27) (F:Nat):Rf F op=some (tb (wd op)):=by
 have b:op.toNat<Bj.1.length:=by rw [Bj.2];omega
 have e:wd op=(Bj.1[op.toNat]).data.toList:=by unfold wd;rw [List.getElem?_eq_getElem b];rfl
 unfold Rf;rw [Ag (A3j (dF (by omega)) (dF (by omega)))];refine (C5 (l:=Bj.1) op.toNat _ (by omega) (List.getElem?_eq_getElem b)).trans ?_;rw [e]
 congr 1
theorem A2p {l:List UInt8} (hF:30<=F) {a:Int} (g:1<=a/\a<=b/\b<=27) (h:∀op:Int,a<=op->op<=b->l≠wd op):P9 F (tb l) a b=some 0:=by
 unfold P9;have d:Bj.1.length=28:=Bj.2;rw [ckb (by omega),show Wb Bj.1 a (b+1)=some ((Bj.1.drop a.toNat).take ((b+1).toNat-a.toNat)) by unfold Wb;rw [if_pos (by omega)],sbd];unfold F9;rw [show C7 ((Bj.1.drop a.toNat).take ((b+1).toNat-a.toNat)) (tb l) F 0=some (-1) from A9c (by simp [d];omega) (by
  intro x j;obtain ⟨i,hi,e⟩:=List.mem_iff_getElem.1 j;simp only [List.length_take,List.length_drop,d] at hi;have f:Bj.1[a.toNat+i]? = some x:=by
   rw [←e,List.getElem_take,List.getElem_drop];exact List.getElem?_eq_getElem _
  have k:wd (a+i)=x.data.toList:=by
   unfold wd;rw [show (a+(i:Int)).toNat=a.toNat+i by omega,f];rfl
  have:=h (a+i) (by omega) (by omega);unfold sEq;refine dF λe=>this ?_;rw [k,←e];simp [tb]) F 0 (by simp [d];omega) (by omega),sbd,Ag (c:=bif decide ((-1:Int)>=0) then (!sEq (tb l) (⟨#[]⟩:ByteArray)) else false) rfl]
theorem B08 {l:List UInt8} (h:∀op:Int,1<=op->op<=25->wd op≠[]->l≠wd op) (G:Nat):∀(n:Nat) (op:Int),1<=op->op<=26->27-op.toNat<=n->M8 G (tb l) 25 n op=some 0:=by
 intro n
 induction n with
 | zero=>intro op d f i;omega
 | succ n ih =>
  intro op d f i;show Pi G (tb l) 25 _ op=_;unfold Pi Rr
  by_cases ho:op<=25
  ·rw [At (dT ho),B01 (by omega),sbd,show (⟨#[]⟩:ByteArray)=tb [] from rfl,B0e]
   by_cases b:wd op=[]
   ·rw [dT b,gdF (g:=(!true)==true&&true) rfl,sbd,Ag (c:=bif !true then sEq default (tb l) else false) rfl,ckb (by omega)];exact ih (op+1) (by omega) (by omega) (by omega)
   ·rw [dF b,gdT (g:=(!false)==true&&true) rfl,sbd,B0e,dF (λe=>h op d ho b e.symm),Ag (c:=bif !false then false else false) rfl,ckb (by omega)];exact ih (op+1) (by omega) (by omega) (by omega)
  ·rw [Ag (dF ho)]
theorem B2n (s:ByteArray):∃b,∀F,30<=F->sift_word F s=some b/\Tl F s=some b:=by
 obtain ⟨l,rfl⟩:=B5p s
 by_cases h:∃op:Int,1<=op/\op<=25/\wd op≠[]/\l=wd op
 ·obtain ⟨op,f,j,d,rfl⟩:=h;obtain ⟨b,hb⟩:∃b:Bool,b=decide (op<8\/13<op):=⟨_,rfl⟩;have key:op=1\/op=2\/op=3\/op=4\/op=5\/op=6\/op=7\/op=8\/op=9\/op=10\/op=11\/op=12\/op=13\/op=14\/op=15\/op=16\/op=17\/op=18\/op=19\/op=20\/op=21\/op=22\/op=23\/op=24\/op=25:=by omega
  rcases key with rfl|rfl|rfl|rfl|rfl|rfl|rfl|rfl|rfl|rfl|rfl|rfl|rfl|rfl|rfl|rfl|rfl|rfl|rfl|rfl|rfl|rfl|rfl|rfl|rfl
  case inr.inr.inr.inr.inr.inr.inr.inr.inr.inr.inr.inr.inr.inl=>exact absurd rfl d
  all_goals
   refine ⟨b,λF hF=>?_⟩;subst hb;obtain ⟨F,rfl⟩:∃G,F=G+30:=⟨F-30,by omega⟩;exact ⟨rfl,rfl⟩
 ·have hn:∀op:Int,1<=op->op<=25->wd op≠[]->l≠wd op:=λop f j d e=>h ⟨op,f,j,d,e⟩;have c:∀op:Int,(1<=op/\op<=7)\/(15<=op/\op<=25)->wd op≠[]:=by
   have k:∀i:Fin 28,((1<=i.val/\i.val<=7)\/(15<=i.val/\i.val<=25))->wd (i.val:Int)≠[]:=by decide
   intro op ho;have:=k ⟨op.toNat,by omega⟩ (by dsimp only;omega)
   rwa [show ((op.toNat:Nat):Int)=op by omega] at this
  refine ⟨false,λF hF=>⟨?_,?_⟩⟩
  ·unfold sift_word;rw [A2p (by omega) (by omega) (λop a b=>hn op (by omega) (by omega) (c op (.inl ⟨a,b⟩))),sbd,gdT (g:=(decide ((0:Int)>0))==false&&true) rfl,A2p (by omega) (by omega) (λop a b=>hn op (by omega) (by omega) (c op (.inr ⟨a,b⟩))),sbd];rfl
  ·unfold Tl Vf;rw [show M8 F (tb l) 25 F 1=some 0 from B08 hn F F 1 (by omega) (by omega) (by omega),sbd];rfl
def T.rnode:T->zG
 | .leaf op v=>⟨op,v,0,0,[]⟩
 | .un op r g a=>⟨op,0,r,g,[a.rnode]⟩
 | .bin op a b=>⟨op,0,0,0,[a.rnode,b.rnode]⟩
theorem A47:∀t:T,cv t.rnode=t.node:=by
 intro t
 induction t with
 | leaf op v=>rfl
 | un op r g a ih=>show zA.mk op 0 r g [cv a.rnode]=_;rw [ih];rfl
 | bin op a b iha ihb=>show zA.mk op 0 0 0 [cv a.rnode,cv b.rnode]=_;rw [iha,ihb];rfl
def VT (n:zG):Prop:=∃t,okT true t/\n=t.rnode
def VF (n:zG):Prop:=∃t,okT false t/\n=t.rnode
theorem VT.inv {n:zG} (h:VT n):n.Value_=0/\(((n.Op=1\/n.Op=2)/\n.Rays=0/\n.Gates=0/\n.Args=[])\/((n.Op=3/\n.Rays=0/\n.Gates=0\/(n.Op=6\/n.Op=7)/\0<=n.Rays/\n.Rays<=3/\0<=n.Gates/\n.Gates<=3)/\∃x,n.Args=[x]/\VT x) \/
  ((n.Op=4\/n.Op=5)/\n.Rays=0/\n.Gates=0/\∃x y,n.Args=[x,y]/\VT x/\VT y)\/((8<=n.Op/\n.Op<=13)/\n.Rays=0/\n.Gates=0/\∃x y,n.Args=[x,y]/\VF x/\VF y)):=by
 obtain ⟨t,h,rfl⟩:=h
 cases t with
 | leaf op v=>simp only [okT] at h;exact ⟨h.2,.inl ⟨h.1,rfl,rfl,rfl⟩⟩
 | un op r g a=>simp only [okT] at h;exact ⟨rfl,.inr (.inl ⟨h.1,_,rfl,a,h.2,rfl⟩)⟩
 | bin op a b =>
  simp only [okT] at h;rcases h with h|h
  ·exact ⟨rfl,.inr (.inr (.inl ⟨h.1,rfl,rfl,_,_,rfl,⟨a,h.2.1,rfl⟩,b,h.2.2,rfl⟩))⟩
  ·exact ⟨rfl,.inr (.inr (.inr ⟨⟨h.1,h.2.1⟩,rfl,rfl,_,_,rfl,⟨a,h.2.2.1,rfl⟩,b,h.2.2.2,rfl⟩))⟩
theorem VF.inv {n:zG} (h:VF n):((n.Op=14/\0<=n.Value_/\n.Value_<=1000000000\/15<=n.Op/\n.Op<=24/\n.Value_=0)/\n.Rays=0/\n.Gates=0/\n.Args=[]) \/
  (n.Value_=0/\n.Op=25/\(0<=n.Rays/\n.Rays<=3/\0<=n.Gates/\n.Gates<=3)/\∃x,n.Args=[x]/\VT x) \/
  (n.Value_=0/\(n.Op=26\/n.Op=27)/\n.Rays=0/\n.Gates=0/\∃x y,n.Args=[x,y]/\VF x/\VF y/\y.Op<26):=by
 obtain ⟨t,h,rfl⟩:=h
 cases t with
 | leaf op v=>simp only [okT] at h;exact .inl ⟨h,rfl,rfl,rfl⟩
 | un op r g a=>simp only [okT] at h;exact .inr (.inl ⟨rfl,h.1.1,h.1.2,_,rfl,a,h.2,rfl⟩)
 | bin op a b =>
  simp only [okT] at h;refine .inr (.inr ⟨rfl,h.1,rfl,rfl,_,_,rfl,⟨a,h.2.1,rfl⟩,⟨b,h.2.2.1,rfl⟩,?_⟩);have:=h.2.2.2
  cases b<;>exact this
theorem Yf {n:zG} {o:Int} {a:List zG} (b:n.Op=o) (c:n.Value_=v) (d:n.Rays=r) (e:n.Gates=g) (f:n.Args=a):n=⟨o,v,r,g,a⟩:=by
 cases n;subst b c d e f;rfl
theorem VT.leaf {n:zG} (b:n.Op=1\/n.Op=2) (c:n.Value_=0) (d:n.Rays=0) (e:n.Gates=0) (f:n.Args=[]):VT n :=
 ⟨.leaf n.Op 0,by simp only [okT];exact ⟨b,trivial⟩,Yf rfl c d e f⟩
theorem VT.un {n x:zG} (b:n.Op=3/\n.Rays=0/\n.Gates=0\/(n.Op=6\/n.Op=7)/\0<=n.Rays/\n.Rays<=3/\0<=n.Gates/\n.Gates<=3) (c:n.Value_=0) (d:n.Args=[x]) (e:VT x):VT n:=by
 obtain ⟨t,ht,rfl⟩:=e;exact ⟨.un n.Op n.Rays n.Gates t,by simp only [okT];exact ⟨b,ht⟩,Yf rfl c rfl rfl d⟩
theorem VT.bin {n x y:zG} (b:n.Op=4\/n.Op=5) (c:n.Value_=0) (d:n.Rays=0) (e:n.Gates=0) (f:n.Args=[x,y]) (g:VT x) (i:VT y):VT n:=by
 obtain ⟨t,ht,rfl⟩:=g;obtain ⟨u,j,rfl⟩:=i;exact ⟨.bin n.Op t u,by simp only [okT];exact .inl ⟨b,ht,j⟩,Yf rfl c d e f⟩
theorem VT.cmp {n x y:zG} (b:8<=n.Op/\n.Op<=13) (c:n.Value_=0) (d:n.Rays=0) (e:n.Gates=0) (f:n.Args=[x,y]) (g:VF x) (i:VF y):VT n:=by
 obtain ⟨t,ht,rfl⟩:=g;obtain ⟨u,j,rfl⟩:=i;exact ⟨.bin n.Op t u,by simp only [okT];exact .inr ⟨b.1,b.2,ht,j⟩,Yf rfl c d e f⟩
theorem VF.leaf {n:zG} (b:n.Op=14/\0<=n.Value_/\n.Value_<=1000000000\/15<=n.Op/\n.Op<=24/\n.Value_=0) (c:n.Rays=0) (d:n.Gates=0) (e:n.Args=[]):VF n :=
 ⟨.leaf n.Op n.Value_,by simp only [okT];exact b,Yf rfl rfl c d e⟩
theorem VF.un {n x:zG} (h0:n.Value_=0) (b:n.Op=25) (c:0<=n.Rays/\n.Rays<=3/\0<=n.Gates/\n.Gates<=3) (d:n.Args=[x]) (e:VT x):VF n:=by
 obtain ⟨t,ht,rfl⟩:=e;exact ⟨.un n.Op n.Rays n.Gates t,by simp only [okT];exact ⟨⟨b,c⟩,ht⟩,Yf rfl h0 rfl rfl d⟩
theorem VF.bin {n x y:zG} (h0:n.Value_=0) (c:n.Op=26\/n.Op=27) (d:n.Rays=0) (e:n.Gates=0) (f:n.Args=[x,y]) (g:VF x) (i:VF y) (b:y.Op<26):VF n:=by
 obtain ⟨t,ht,rfl⟩:=g;obtain ⟨u,j,rfl⟩:=i;exact ⟨.bin n.Op t u,by simp only [okT];exact ⟨c,ht,j,by cases u<;>exact b⟩,Yf rfl h0 d e f⟩
open Classical in
theorem B04:∀(F:Nat) (n:zG),nds n<=100000->nds n+5<=F->Cy F n=some (decide (VT n))/\Jm F n=some (decide (VF n)):=by
 intro F
 induction F with
 | zero=>intro n _ h;omega
 | succ F ih =>
  intro n h1 h2;have hn:=Wi n;have c1:=Wh n.Args;have l:∀(i:Nat) x,n.Args[i]? = some x->Cy F x=some (decide (VT x))/\Jm F x=some (decide (VF x)):=by
   intro i x e;have:=T5 (List.mem_of_getElem? e);exact ih x (by omega) (by omega)
  constructor
  ·show Jk F (Cy F) (Jm F) n=_;have l4:∀(k i:Nat),n.Args.length+1<=k+i->i<=n.Args.length->Dl (Cy F) (Jm F) n k i=some (decide (∀x∈n.Args.drop i,if n.Op>=8 then VF x else VT x)):=by
    intro k
    induction k with
    | zero=>intro i h0 r;omega
    | succ k ihk =>
     intro i h0 r;show G6 (Cy F) (Jm F) n _ i=_;unfold G6 Jl
     by_cases hi:i<n.Args.length
     ·have e:=List.getElem?_eq_getElem hi;have b1:=List.drop_eq_getElem_cons hi;generalize n.Args[i]=x at e b1;obtain ⟨s1,s2⟩:=l i x e;have hk:=ihk (i+1) (by omega) (by omega);rw [show ((i+1:Nat):Int)=(i:Int)+1 by omega] at hk;rw [At (dT (by omega)),b1]
      by_cases p:n.Op>=8
      ·rw [At (dT p),C5 i x rfl e,s2,sbd]
       by_cases hv:VF x
       ·rw [dT hv,Ag (c:=!true) rfl,Ag (dF (by omega)),ckb (by omega),hk]
        congr 1
        rw [decide_eq_decide];simp only [List.mem_cons,forall_eq_or_imp,if_pos p,hv,true_and]
       ·rw [dF hv,At (c:=!false) rfl]
        congr 1
        refine (dF λh=>hv ?_).symm;have:=h x (by simp)
        rwa [if_pos p] at this
      ·rw [Ag (dF p),At (dT (by omega)),C5 i x rfl e,s1,sbd]
       by_cases hv:VT x
       ·rw [dT hv,Ag (c:=!true) rfl,ckb (by omega),hk]
        congr 1
        rw [decide_eq_decide];simp only [List.mem_cons,forall_eq_or_imp,if_neg p,hv,true_and]
       ·rw [dF hv,At (c:=!false) rfl]
        congr 1
        refine (dF λh=>hv ?_).symm;have:=h x (by simp)
        rwa [if_neg p] at this
     ·rw [Ag (dF (by omega)),List.drop_eq_nil_of_le (by omega)];simp
   have l40:=l4 F 0 (by omega) (by omega);rw [List.drop_zero] at l40;have t:((bif (bif (bif (bif (bif (bif (decide (n.Op<1)) then true else (decide (n.Op>13))) then true else (n.Value_ != 0)) then true else (bif (bif (n.Op != 6) then (n.Op != 7) else false) then (bif (n.Rays != 0) then true else (n.Gates != 0)) else false)) then true else (!(Ao n.Rays 0 3))) then true else (!(Ao n.Gates 0 3))) then true else false)=true)↔(n.Op<1\/n.Op>13\/n.Value_≠0\/(n.Op≠6/\n.Op≠7/\(n.Rays≠0\/n.Gates≠0))\/¬(0<=n.Rays/\n.Rays<=3)\/¬(0<=n.Gates/\n.Gates<=3)):=by
    unfold Ao;simp [cond_eq_ite];omega
   unfold Jk G7 G8;generalize (bif (bif (bif (bif (bif (decide (n.Op<1)) then true else (decide (n.Op>13))) then true else (n.Value_ != 0)) then true else (bif (bif (n.Op != 6) then (n.Op != 7) else false) then (bif (n.Rays != 0) then true else (n.Gates != 0)) else false)) then true else (!(Ao n.Rays 0 3))) then true else (!(Ao n.Gates 0 3)))=b at t ⊢
   cases b
   ·rw [Ag rfl];have u:¬(n.Op<1\/n.Op>13\/n.Value_≠0\/(n.Op≠6/\n.Op≠7/\(n.Rays≠0\/n.Gates≠0))\/¬(0<=n.Rays/\n.Rays<=3)\/¬(0<=n.Gates/\n.Gates<=3)):=λh=>by have:=t.2 h;cases this
    have fin:∀w:Nat,(w=if n.Op<=2 then 0 else if n.Op=3\/n.Op=6\/n.Op=7 then 1 else 2)->(bif ((n.Args.length:Int) != (w:Int)) then (some false) else (Dl (Cy F) (Jm F) n F 0))=some (decide (VT n)):=by
     intro w g
     by_cases d:n.Args.length=w
     ·rw [Ag (neF (by omega)),show Dl (Cy F) (Jm F) n F 0=_ from l40]
      congr 1
      rw [decide_eq_decide];constructor
      ·intro h
       match j:n.Args,d with
       | [],d =>
        have:w=0:=d.symm;have b2:n.Op<=2:=by split at g<;>(try split at g)<;>omega
        exact VT.leaf (by omega) (by omega) (by omega) (by omega) j
       | [x],d =>
        have b8:w=1:=d.symm;have b2:n.Op=3\/n.Op=6\/n.Op=7:=by split at g<;>(try split at g)<;>omega
        rw [j] at h;have:=h x (by simp);rw [if_neg (by omega)] at this;exact VT.un (by omega) (by omega) j this
       | [x,y],d =>
        have b8:w=2:=d.symm;have b2:n.Op=4\/n.Op=5\/8<=n.Op:=by split at g<;>(try split at g)<;>omega
        rw [j] at h;have e1:=h x (by simp);have e2:=h y (by simp)
        by_cases p:n.Op>=8
        ·rw [if_pos p] at e1 e2;exact VT.cmp (by omega) (by omega) (by omega) (by omega) j e1 e2
        ·rw [if_neg p] at e1 e2;exact VT.bin (by omega) (by omega) (by omega) (by omega) j e1 e2
       | _::_::_::_,d =>
        exfalso;simp only [List.length_cons] at d
        split at g<;>(try split at g)<;>omega
      ·intro h x e;obtain ⟨-,h|⟨h0,y,h,f⟩|⟨h0,-,-,y,z,h,f,hz⟩|⟨h0,-,-,y,z,h,f,hz⟩⟩:=h.inv
       ·rw [h.2.2.2] at e;cases e
       ·rw [h,List.mem_singleton] at e;subst e;rw [if_neg (by omega)];exact f
       ·rw [h] at e;simp only [List.mem_cons,List.not_mem_nil,or_false] at e;rw [if_neg (by omega)];rcases e with rfl|rfl
        ·exact f
        ·exact hz
       ·rw [h] at e;simp only [List.mem_cons,List.not_mem_nil,or_false] at e;rw [if_pos (by omega)];rcases e with rfl|rfl
        ·exact f
        ·exact hz
     ·rw [At (neT (by omega)),dF];intro h;obtain ⟨-,h|⟨h0,y,h,f⟩|⟨h0,-,-,y,z,h,f,hz⟩|⟨h0,-,-,y,z,h,f,hz⟩⟩:=h.inv
      ·rw [h.2.2.2] at d;simp only [List.length_nil] at d;split at g<;>(try split at g)<;>omega
      ·rw [h] at d;simp only [List.length_cons,List.length_nil] at d;split at g<;>(try split at g)<;>omega
      ·rw [h] at d;simp only [List.length_cons,List.length_nil] at d;split at g<;>(try split at g)<;>omega
      ·rw [h] at d;simp only [List.length_cons,List.length_nil] at d;split at g<;>(try split at g)<;>omega
    by_cases m:n.Op<=2
    ·rw [At (dT m),eqF (show n.Op≠4 by omega),eqF (show n.Op≠5 by omega),dF (show ¬n.Op>=8 by omega),Ag (c:=bif (bif false then true else false) then true else false) rfl];exact fin 0 (by rw [if_pos m])
    ·rw [Ag (dF m)]
     by_cases b4:n.Op=3\/n.Op=6\/n.Op=7
     ·rw [eqF (show n.Op≠4 by omega),eqF (show n.Op≠5 by omega),dF (show ¬n.Op>=8 by omega),Ag (c:=bif (bif false then true else false) then true else false) rfl];exact fin 1 (by rw [if_neg m,if_pos b4])
     ·rw [At (c:=bif (bif (n.Op==4) then true else (n.Op==5)) then true else (decide (n.Op>=8))) (by
       by_cases v:n.Op=4
       ·rw [eqT v];rfl
       ·by_cases b5:n.Op=5
        ·rw [eqF v,eqT b5];rfl
        ·rw [eqF v,eqF b5,dT (show n.Op>=8 by omega)];rfl)]
      exact fin 2 (by rw [if_neg m,if_neg b4])
   ·rw [At rfl,dF];intro h;have u:=t.1 rfl;obtain ⟨h0,h|⟨r,-⟩|⟨r,h4,h5,-⟩|⟨r,h4,h5,-⟩⟩:=h.inv<;>omega
  ·show Pl F (Cy F) (Jm F) n=_;have t:((bif (bif (bif (bif (bif (bif (bif (decide (n.Op<14)) then true else (decide (n.Op>27))) then true else (!(Ao n.Value_ 0 1000000000))) then true else (bif (n.Op != 14) then (n.Value_ != 0) else false)) then true else (bif (n.Op != 25) then (bif (n.Rays != 0) then true else (n.Gates != 0)) else false)) then true else (!(Ao n.Rays 0 3))) then true else (!(Ao n.Gates 0 3))) then true else false)=true)↔(n.Op<14\/n.Op>27\/¬(0<=n.Value_/\n.Value_<=1000000000)\/(n.Op≠14/\n.Value_≠0)\/(n.Op≠25/\(n.Rays≠0\/n.Gates≠0))\/¬(0<=n.Rays/\n.Rays<=3)\/¬(0<=n.Gates/\n.Gates<=3)):=by
    unfold Ao;simp [cond_eq_ite];omega
   unfold Pl;generalize (bif (bif (bif (bif (bif (bif (decide (n.Op<14)) then true else (decide (n.Op>27))) then true else (!(Ao n.Value_ 0 1000000000))) then true else (bif (n.Op != 14) then (n.Value_ != 0) else false)) then true else (bif (n.Op != 25) then (bif (n.Rays != 0) then true else (n.Gates != 0)) else false)) then true else (!(Ao n.Rays 0 3))) then true else (!(Ao n.Gates 0 3)))=b at t ⊢
   cases b
   ·rw [Ag rfl];have u:¬(n.Op<14\/n.Op>27\/¬(0<=n.Value_/\n.Value_<=1000000000)\/(n.Op≠14/\n.Value_≠0)\/(n.Op≠25/\(n.Rays≠0\/n.Gates≠0))\/¬(0<=n.Rays/\n.Rays<=3)\/¬(0<=n.Gates/\n.Gates<=3)):=λh=>by have:=t.2 h;cases this
    by_cases b0:n.Op=25
    ·rw [At (eqT b0)]
     by_cases d:n.Args.length=1
     ·match j:n.Args,d with
      | [x],_ =>
       have s:=(l 0 x (by rw [j];rfl)).1;rw [At (eqT (by simp)),Tr,s,sbd]
       congr 1
       rw [decide_eq_decide];constructor
       ·intro h;exact VF.un (by omega) b0 (by omega) j h
       ·intro h;rcases h.inv with ⟨h0,-⟩|⟨-,-,-,y,h,f⟩|⟨-,h0,-⟩
        ·omega
        ·rw [j] at h;cases h;exact f
        ·omega
     ·rw [Ag (eqF (by omega)),dF];intro h;rcases h.inv with ⟨h0,-⟩|⟨-,-,-,y,h,f⟩|⟨-,h0,-⟩
      ·omega
      ·rw [h] at d;exact d rfl
      ·omega
    ·rw [Ag (eqF b0)]
     by_cases b6:n.Op>=26
     ·rw [At (dT b6)]
      by_cases d:n.Args.length=2
      ·match j:n.Args,d with
       | [x,y],_ =>
        have sx:=(l 0 x (by rw [j];rfl)).2;have sy:=(l 1 y (by rw [j];rfl)).2;have o:VF n↔VF x/\VF y/\y.Op<26:=by
         constructor
         ·intro h;rcases h.inv with ⟨h0,-⟩|⟨-,h0,-⟩|⟨-,-,-,-,x',y',h,e,f,q⟩
          ·omega
          ·omega
          ·rw [j] at h;cases h;exact ⟨e,f,q⟩
         ·rintro ⟨e,f,q⟩;exact VF.bin (by omega) (by omega) (by omega) (by omega) j e f q
        rw [At (eqT (by simp)),Tr,sx,sbd]
        by_cases e:VF x
        ·rw [dT e,At rfl,Zu,sy,sbd]
         by_cases f:VF y
         ·rw [dT f,At rfl,Zu]
          congr 1
          rw [decide_eq_decide,o];exact ⟨λh=>⟨e,f,h⟩,λh=>h.2.2⟩
         ·rw [dF f,Ag rfl,dF λh=>f (o.1 h).2.1]
        ·rw [dF e,Ag rfl,dF λh=>e (o.1 h).1]
      ·rw [Ag (eqF (by omega)),dF];intro h;rcases h.inv with ⟨h0,-⟩|⟨-,h0,-⟩|⟨-,-,-,-,x',y',h,e,f,q⟩
       ·omega
       ·omega
       ·rw [h] at d;exact d rfl
     ·rw [Ag (dF b6)]
      congr 1
      by_cases d:n.Args=[]
      ·rw [eqT (by rw [d];rfl),dT (VF.leaf (by omega) (by omega) (by omega) d)]
      ·rw [eqF (by have:=List.length_pos_iff.2 d;omega),dF];intro h;rcases h.inv with ⟨-,-,-,h⟩|⟨-,h0,-⟩|⟨-,h0,-⟩
       ·exact d h
       ·omega
       ·omega
   ·rw [At rfl,dF];intro h;have u:=t.1 rfl;rcases h.inv with ⟨h0,r,h4,-⟩|⟨h0,h1,r,-⟩|⟨h0,h1,r,h4,-⟩<;>omega
def isX (k:Bool) (u:zA):Bool:=bif k then sift_isCondition u else sift_isValue u
structure StG (self_:zA->Option Bool) (p:zA) (k:Bool) (L:Nat->Int->Option Bool):Prop where
 step:∀n (i:Nat) u b,p.Args[i]? = some u->p.Args.length<=2->self_ u=some b->L (n+1) (i:Int)=bif (bif (!(isX k u)) then true else (!b)) then (some false) else L n ((i:Int)+1)
 fin:∀n x,(p.Args.length:Int)<=x->L (n+1) x=bif (decide (p.Op<26)) then (some true) else ((getI p.Args 1).bind λu=>some (decide (u.Op<26)))
theorem A0a {x b:Bool} {A:Option Bool} (hs:self_ u=some b):((gd ((!x)==false&&true) (self_ u) default).bind λy=>bif (bif (!x) then true else (!y)) then (some false) else A)=bif (bif (!x) then true else (!b)) then (some false) else A:=by
 cases x
 ·rw [gdF (g:=(!false)==false&&true) rfl,sbd];rfl
 ·rw [gdT (g:=(!true)==false&&true) rfl,hs,sbd]
section
theorem sg2:StG self_ p true (Kv self_ p):=by
 refine ⟨λn i u b hi d hs=>?_,λn x e=>?_⟩
 ·have c:=(List.getElem?_eq_some_iff.1 hi).1;show Ch self_ p _ _=_;rw [Ch,At (dT (by omega)),C5 i u rfl hi,ckb (by omega),A0a hs];rfl
 ·show Ch self_ p _ _=_;rw [Ch,Ag (dF (by omega))];rfl
theorem sg4:StG self_ p true (Kw self_ p):=by
 refine ⟨λn i u b hi d hs=>?_,λn x e=>?_⟩
 ·have c:=(List.getElem?_eq_some_iff.1 hi).1;show Ci self_ p _ _=_;rw [Ci,At (dT (by omega)),C5 i u rfl hi,ckb (by omega),A0a hs];rfl
 ·show Ci self_ p _ _=_;rw [Ci,Ag (dF (by omega))];rfl
theorem sg6:StG self_ p true (Kx self_ p):=by
 refine ⟨λn i u b hi d hs=>?_,λn x e=>?_⟩
 ·have c:=(List.getElem?_eq_some_iff.1 hi).1;show Cj self_ p _ _=_;rw [Cj,At (dT (by omega)),C5 i u rfl hi,ckb (by omega),A0a hs];rfl
 ·show Cj self_ p _ _=_;rw [Cj,Ag (dF (by omega))];rfl
theorem sg8:StG self_ p false (Ky self_ p):=by
 refine ⟨λn i u b hi d hs=>?_,λn x e=>?_⟩
 ·have c:=(List.getElem?_eq_some_iff.1 hi).1;show Ck self_ p _ _=_;rw [Ck,At (dT (by omega)),C5 i u rfl hi,ckb (by omega),A0a hs];rfl
 ·show Ck self_ p _ _=_;rw [Ck,Ag (dF (by omega))];rfl
theorem B68:StG self_ p true (M3 self_ p):=by
 refine ⟨λn i u b hi d hs=>?_,λn x e=>?_⟩
 ·have c:=(List.getElem?_eq_some_iff.1 hi).1;show Ea self_ p _ _=_;rw [Ea,At (dT (by omega)),C5 i u rfl hi,ckb (by omega),A0a hs];rfl
 ·show Ea self_ p _ _=_;rw [Ea,Ag (dF (by omega))];rfl
theorem B5n:StG self_ p true (M4 self_ p):=by
 refine ⟨λn i u b hi d hs=>?_,λn x e=>?_⟩
 ·have c:=(List.getElem?_eq_some_iff.1 hi).1;show Eb self_ p _ _=_;rw [Eb,At (dT (by omega)),C5 i u rfl hi,ckb (by omega),A0a hs];rfl
 ·show Eb self_ p _ _=_;rw [Eb,Ag (dF (by omega))];rfl
theorem StG.all {k:Bool} {L:Nat->Int->Option Bool} (h:StG self_ p k L) (r:p.Args.length<=2) (s:p.Op<26\/p.Args.length=2) (hs:∀(i:Nat) u,p.Args[i]? = some u->∃b,self_ u=some b) (hF:4<=F) :
  ∃b,L F 0=some b/\(b=true->(∀(i:Nat) u,p.Args[i]? = some u->isX k u=true/\self_ u=some true)/\(p.Op<26\/∃u,p.Args[1]? = some u/\u.Op<26)):=by
 have go:∀(n i:Nat),p.Args.length+1<=n+i->i<=p.Args.length->∃b,L n i=some b/\(b=true->(∀(j:Nat) u,i<=j->p.Args[j]? = some u->isX k u=true/\self_ u=some true)/\(p.Op<26\/∃u,p.Args[1]? = some u/\u.Op<26)):=by
  intro n
  induction n with
  | zero=>intro i h0 o;omega
  | succ n ih =>
   intro i h0 o
   by_cases hi:i<p.Args.length
   ·have d:=List.getElem?_eq_getElem hi;generalize p.Args[i]=u at d;obtain ⟨b,hb⟩:=hs i u d;rw [h.step n i u b d r hb]
    cases l:(bif (!(isX k u)) then true else (!b))
    ·rw [Ag rfl];have q:isX k u=true/\b=true:=by revert l;cases isX k u<;>cases b<;>simp
     obtain ⟨c,c1,c2⟩:=ih (i+1) (by omega) (by omega);refine ⟨c,c1,λl=>⟨λj v hj hv=>?_,(c2 l).2⟩⟩
     by_cases e:j=i
     ·subst e;rw [d] at hv;cases hv;exact ⟨q.1,by rw [hb,q.2]⟩
     ·exact (c2 l).1 j v (by omega) hv
    ·rw [At rfl];exact ⟨false,rfl,λh=>by cases h⟩
   ·rw [h.fin n i (by omega)]
    by_cases f:p.Op<26
    ·rw [At (dT f)];exact ⟨true,rfl,λ_=>⟨λj u hj g=>by have:=(List.getElem?_eq_some_iff.1 g).1;omega,.inl f⟩⟩
    ·rw [Ag (dF f)];have m:1<p.Args.length:=by omega
     have d:=List.getElem?_eq_getElem m;rw [show (1:Int)=((1:Nat):Int) from rfl,C5 1 _ rfl d];exact ⟨_,rfl,λhb=>⟨λj u hj g=>by have:=(List.getElem?_eq_some_iff.1 g).1;omega,.inr ⟨_,d,of_decide_eq_true hb⟩⟩⟩
 obtain ⟨b,o,m⟩:=go F 0 (by omega) (by omega);exact ⟨b,o,λhb=>⟨λi u g=>(m hb).1 i u (by omega) g,(m hb).2⟩⟩
end
theorem orI {x y:Bool} (h:(bif x then true else y)=false):x=false/\y=false:=by cases x<;>cases y<;>simp_all
theorem B5t {a:Int} (h:(a != b)=false):a=b:=by simpa using h
theorem grd {P:Prop} {X:Option Bool} {len a vm rm:Int} (k:len=a->0<=v->0<=r->0<=g->v<=vm->r<=rm->g<=rm->∃b,X=some b/\(b=true->P)) :
  ∃b,(bif (bif (bif (bif (len != a) then true else (decide ((if g<if r<v then r else v then g else if r<v then r else v)<0))) then true else (decide (v>vm))) then true else (decide ((if g>r then g else r)>rm))) then (some false) else X)=some b/\(b=true->P):=by
 cases h:(bif (bif (bif (len != a) then true else (decide ((if g<if r<v then r else v then g else if r<v then r else v)<0))) then true else (decide (v>vm))) then true else (decide ((if g>r then g else r)>rm)))
 ·rw [Ag rfl];obtain ⟨h,d⟩:=orI h;obtain ⟨h,i⟩:=orI h;obtain ⟨e,c⟩:=orI h;have e:=B5t e;have c:=of_decide_eq_false c;have i:=of_decide_eq_false i;have d:=of_decide_eq_false d;have f:0<=v/\0<=r/\0<=g:=by split at c<;>split at c<;>omega
  have j:r<=rm/\g<=rm:=by split at d<;>omega
  exact k e f.1 f.2.1 f.2.2 (by omega) j.1 j.2
 ·rw [At rfl];exact ⟨false,rfl,λh=>by cases h⟩
theorem A0x:sift_isCondition u=true↔1<=u.Op/\u.Op<=13:=by unfold sift_isCondition;simp [cond_eq_ite]
theorem A0y:sift_isValue u=true↔14<=u.Op/\u.Op<=27:=by unfold sift_isValue;simp [cond_eq_ite]
theorem VT.op {n:zG} (h:VT n):1<=n.Op/\n.Op<=13:=by obtain ⟨-,h|⟨h,-⟩|⟨h,-⟩|⟨h,-⟩⟩:=h.inv<;>omega
theorem VF.op {n:zG} (h:VF n):14<=n.Op/\n.Op<=27:=by rcases h.inv with ⟨h,-⟩|⟨-,h,-⟩|⟨-,h,-⟩<;>omega
theorem A18 (n:zG):(cv n).Op=n.Op:=by rw [A46]
theorem A88:∀(F:Nat) (n:zG),nds n<=100000->nds n+5<=F->∃b,Bs F (cv n)=some b/\(b=true->VT n\/VF n):=by
 intro F
 induction F with
 | zero=>intro n _ h;omega
 | succ F ih =>
  intro n h1 h2;have hn:=Wi n;have b6:=Wh n.Args;have hl:=Yx n.Args;have g:∀(i:Nat) x,n.Args[i]? = some x->∃b,Bs F (cv x)=some b/\(b=true->VT x\/VF x):=by
   intro i x d;have:=T5 (List.mem_of_getElem? d);exact ih x (by omega) (by omega)
  have hs:∀(i:Nat) u,(cvL n.Args)[i]? = some u->∃b,Bs F u=some b:=by
   intro i u o;have hi:=(List.getElem?_eq_some_iff.1 o).1;have d:=List.getElem?_eq_getElem (l:=n.Args) (i:=i) (by omega);have:=Yw d;rw [o] at this
   cases this
   obtain ⟨b,hb,-⟩:=g i _ d;exact ⟨b,hb⟩
  have v:∀(i:Nat) x,n.Args[i]? = some x->isX true (cv x)=true/\Bs F (cv x)=some true->VT x:=by
   rintro i x d ⟨k1,k2⟩;obtain ⟨b,hb,hv⟩:=g i x d;rw [k2] at hb;cases hb
   have:=A0x.1 (show sift_isCondition (cv x)=true from k1);rw [A18] at this;exact (hv rfl).resolve_right λh=>by have:=h.op;omega
  have hV:∀(i:Nat) x,n.Args[i]? = some x->isX false (cv x)=true/\Bs F (cv x)=some true->VF x:=by
   rintro i x d ⟨k1,k2⟩;obtain ⟨b,hb,hv⟩:=g i x d;rw [k2] at hb;cases hb
   have:=A0y.1 (show sift_isValue (cv x)=true from k1);rw [A18] at this;exact (hv rfl).resolve_left λh=>by have:=h.op;omega
  rw [A46];show ∃b,E8 F (Bs F) ⟨n.Op,n.Value_,n.Rays,n.Gates,cvL n.Args⟩=some b/\_;unfold E8;dsimp only;rw [hl];have one:∀{L:Nat->Int->Option Bool},StG (Bs F) ⟨n.Op,n.Value_,n.Rays,n.Gates,cvL n.Args⟩ true L->n.Args.length=1->n.Op<26->∃b,L F 0=some b/\(b=true->∃x,n.Args=[x]/\VT x):=by
   intro L p f m;obtain ⟨b,b1,b2⟩:=p.all (by dsimp only;omega) (.inl m) hs (F:=F) (by omega);refine ⟨b,b1,λhb=>?_⟩
   match j:n.Args,f with
   | [x],_=>exact ⟨x,rfl,v 0 x (by rw [j];rfl) ((b2 hb).1 0 (cv x) (by dsimp only;rw [j];rfl))⟩
  have two:∀{k:Bool} {L:Nat->Int->Option Bool},StG (Bs F) ⟨n.Op,n.Value_,n.Rays,n.Gates,cvL n.Args⟩ k L->n.Args.length=2->∃b,L F 0=some b/\(b=true->∃x y,n.Args=[x,y]/\(k=true->VT x/\VT y)/\(k=false->VF x/\VF y)/\(n.Op<26\/y.Op<26)):=by
   intro k L p f;obtain ⟨b,b1,b2⟩:=p.all (by dsimp only;omega) (.inr (by dsimp only;omega)) hs (F:=F) (by omega);refine ⟨b,b1,λhb=>?_⟩
   match j:n.Args,f with
   | [x,y],_ =>
    obtain ⟨c1,c2⟩:=b2 hb;have d1:=c1 0 (cv x) (by dsimp only;rw [j];rfl);have d2:=c1 1 (cv y) (by dsimp only;rw [j];rfl);refine ⟨x,y,rfl,λz=>?_,λz=>?_,c2.imp id λ⟨u,o,q⟩=>?_⟩
    ·subst z;exact ⟨v 0 x (by rw [j];rfl) d1,v 1 y (by rw [j];rfl) d2⟩
    ·subst z;exact ⟨hV 0 x (by rw [j];rfl) d1,hV 1 y (by rw [j];rfl) d2⟩
    ·dsimp only at o;rw [j] at o;have:cv y=u:=Option.some.inj o;rw [←this,A18] at q;exact q
  have zero:∀{L:Nat->Int->Option Bool},StG (Bs F) ⟨n.Op,n.Value_,n.Rays,n.Gates,cvL n.Args⟩ true L->n.Args.length=0->n.Op<26->∃b,L F 0=some b:=by
   intro L p f m;obtain ⟨b,b1,-⟩:=p.all (by dsimp only;omega) (.inl m) hs (F:=F) (by omega);exact ⟨b,b1⟩
  have nil:n.Args.length=0->n.Args=[]:=List.eq_nil_of_length_eq_zero
  by_cases h3:n.Op=3
  ·rw [At (eqT h3)];refine grd λa1 a2 a3 a4 a5 a6 a7=>?_;obtain ⟨b,b1,b2⟩:=one sg2 (by omega) (by omega);exact ⟨b,b1,λhb=>by obtain ⟨x,e,d⟩:=b2 hb;exact .inl (VT.un (by omega) (by omega) e d)⟩
  rw [Ag (eqF h3)]
  by_cases r:n.Op=4\/n.Op=5
  ·rw [At (by rcases r with h|h<;>rw [h]<;>rfl)]
   refine grd λa1 a2 a3 a4 a5 a6 a7=>?_;obtain ⟨b,b1,b2⟩:=two sg4 (by omega);exact ⟨b,b1,λhb=>by obtain ⟨x,y,e,d,-,-⟩:=b2 hb;exact .inl (VT.bin r (by omega) (by omega) (by omega) e (d rfl).1 (d rfl).2)⟩
  rw [Ag (by rw [eqF (show n.Op≠4 by omega),eqF (show n.Op≠5 by omega)];rfl)]
  by_cases b0:n.Op=6\/n.Op=7\/n.Op=25
  ·rw [At (by rcases b0 with h|h|h<;>rw [h]<;>rfl)]
   refine grd λa1 a2 a3 a4 a5 a6 a7=>?_;obtain ⟨b,b1,b2⟩:=one sg6 (by omega) (by omega);refine ⟨b,b1,λhb=>?_⟩;obtain ⟨x,e,d⟩:=b2 hb
   by_cases b3:n.Op=25
   ·exact .inr (VF.un (by omega) b3 (by omega) e d)
   ·exact .inl (VT.un (by omega) (by omega) e d)
  rw [Ag (by rw [eqF (show n.Op≠6 by omega),eqF (show n.Op≠7 by omega),eqF (show n.Op≠25 by omega)];rfl)]
  by_cases h8:(8<=n.Op/\n.Op<=13)\/n.Op=26\/n.Op=27
  ·rw [At (by
    rcases h8 with ⟨h,h'⟩|h|h
    ·rw [dT (show n.Op>=8 by omega),dT h'];rfl
    ·rw [h];rfl
    ·rw [h];rfl)]
   refine grd λa1 a2 a3 a4 a5 a6 a7=>?_;obtain ⟨b,b1,b2⟩:=two sg8 (by omega);refine ⟨b,b1,λhb=>?_⟩;obtain ⟨x,y,e,-,d,b9⟩:=b2 hb
   by_cases s:8<=n.Op/\n.Op<=13
   ·exact .inl (VT.cmp s (by omega) (by omega) (by omega) e (d rfl).1 (d rfl).2)
   ·exact .inr (VF.bin (by omega) (by omega) (by omega) (by omega) e (d rfl).1 (d rfl).2 (by omega))
  rw [Ag (by
   rw [eqF (show n.Op≠26 by omega),eqF (show n.Op≠27 by omega)]
   by_cases c:n.Op>=8
   ·rw [dT c,dF (show ¬n.Op<=13 by omega)];rfl
   ·rw [dF c];rfl)]
  by_cases t:n.Op=14
  ·rw [At (eqT t)];refine grd λa1 a2 a3 a4 a5 a6 a7=>?_;obtain ⟨b,b1⟩:=zero B68 (by omega) (by omega);exact ⟨b,b1,λ_=>.inr (VF.leaf (by omega) (by omega) (by omega) (nil (by omega)))⟩
  rw [Ag (eqF t)]
  cases s:sift_isCondition ⟨n.Op,n.Value_,n.Rays,n.Gates,cvL n.Args⟩
  ·cases hv:sift_isValue ⟨n.Op,n.Value_,n.Rays,n.Gates,cvL n.Args⟩
   ·rw [At (c:=bif !false then !false else false) rfl];exact ⟨false,rfl,λh=>by cases h⟩
   ·have hv:=A0y.1 hv;dsimp only at hv;rw [Ag (c:=bif !false then !true else false) rfl];refine grd λa1 a2 a3 a4 a5 a6 a7=>?_;obtain ⟨b,b1⟩:=zero B5n (by omega) (by omega);exact ⟨b,b1,λ_=>.inr (VF.leaf (by omega) (by omega) (by omega) (nil (by omega)))⟩
  ·have s:=A0x.1 s;dsimp only at s;rw [Ag (c:=bif !true then !(sift_isValue ⟨n.Op,n.Value_,n.Rays,n.Gates,cvL n.Args⟩) else false) rfl];refine grd λa1 a2 a3 a4 a5 a6 a7=>?_;obtain ⟨b,b1⟩:=zero B5n (by omega) (by omega);exact ⟨b,b1,λ_=>.inl (VT.leaf (by omega) (by omega) (by omega) (by omega) (nil (by omega)))⟩
theorem A87 {n:zG} (f:nds n<=100000) (i:2*nds n+100<=F):∃b,Bs F (cv n)=some b /\
  (∃c,Cy F n=some c/\(c=true↔VT n)/\(sift_isCondition (cv n)=true->b=c)/\(sift_isCondition (cv n)=false->c=false)) /\
  (∃c,Jm F n=some c/\(c=true↔VF n)/\(sift_isValue (cv n)=true->b=c)/\(sift_isValue (cv n)=false->c=false)):=by
 classical
 obtain ⟨b,b1,b2⟩:=A88 F n f (by omega);obtain ⟨c1,c2⟩:=B04 F n f (by omega);have tsz:∀t:T,t.size<=nds t.rnode:=by
  intro t
  induction t with
  | leaf op v=>simp [T.size,T.rnode,nds,Vd]
  | un op r g a ih=>simp only [T.size,T.rnode,nds,Vd];omega
  | bin op a b iha ihb=>simp only [T.size,T.rnode,nds,Vd];omega
 have bt:VT n\/VF n->b=true:=by
  rintro (⟨t,ht,rfl⟩|⟨t,ht,rfl⟩)
  all_goals
   have:=A32 t _ F ht (by have:=tsz t;omega);rw [A47,this] at b1;exact (Option.some.inj b1).symm
 refine ⟨b,b1,⟨_,c1,decide_eq_true_iff,λd=>?_,λd=>?_⟩,_,c2,decide_eq_true_iff,λd=>?_,λd=>?_⟩
 ·have e:=A0x.1 d;rw [A18] at e
  by_cases h:VT n
  ·rw [dT h];exact bt (.inl h)
  ·rw [dF h]
   cases b
   ·rfl
   ·rcases b2 rfl with h'|h'
    ·exact absurd h' h
    ·have:=h'.op;omega
 ·refine dF λh=>?_;have:=h.op;rw [A0x.2 (by rw [A18];exact this)] at d;cases d
 ·have e:=A0y.1 d;rw [A18] at e
  by_cases h:VF n
  ·rw [dT h];exact bt (.inr h)
  ·rw [dF h]
   cases b
   ·rfl
   ·rcases b2 rfl with h'|h'
    ·have:=h'.op;omega
    ·exact absurd h' h
 ·refine dF λh=>?_;have:=h.op;rw [A0y.2 (by rw [A18];exact this)] at d;cases d
def Z6 (l:List zN):Nat:=(l.map λp=>nds p.When).sum
theorem A2y {l:List zN} {x:zN} (h:l[i]? = some x):Z6 (l.take (i+1))=Z6 (l.take i)+nds x.When:=by
 unfold Z6;rw [List.take_add_one,h,List.map_append,List.sum_append];simp
theorem A4l {l:List zN} {x:zN} (h:x∈l):nds x.When<=Z6 l:=by
 induction l with
 | nil=>cases h
 | cons y l ih =>
  show nds x.When<=((y::l).map λp=>nds p.When).sum;rw [List.map_cons,List.sum_cons];rcases List.mem_cons.1 h with rfl|h
  ·omega
  ·have:=ih h;unfold Z6 at this;omega
theorem B3m (l:List zN) (hF:1000<=F):∃b,Xc F l=some b/\(b=true->Z6 l<=400/\l.length<=40):=by
 have go:∀(n i c:Nat),(1<=n/\(c<=400->402<=n+c))->c<=801->i<=c->i<=l.length->(c<=400->c=Z6 (l.take i))->∃b,P0 F l n c i=some b/\(b=true->Z6 l<=400/\l.length<=40):=by
  intro n
  induction n with
  | zero =>
   intro i c h0 j k m d;omega
  | succ n ih =>
   intro i c h0 j k m d;show ∃b,Qf F l (P0 F l n) c i=_/\_;unfold Qf Ss
   by_cases g:c<=400
   ·by_cases hi:i<l.length
    ·have f:=List.getElem?_eq_getElem hi;generalize l[i]=x at f;have hs:=A1j 400 F x.When (by omega) (by omega);have o:cnt 400 x.When<=401:=by unfold cnt;omega
     have p:1<=cnt 400 x.When:=by have:=A10 x.When;unfold cnt;omega
     rw [dT (show (i:Int)<(l.length:Int) by omega),dT (show (c:Int)<=400 by omega),At (c:=bif true then true else false) rfl,C5 i x rfl f,show E3 F x.When 400=_ from hs,sbd,ckb (by omega),ckb (by omega)];rw [show ((c:Int)+(cnt 400 x.When:Nat))=((c+cnt 400 x.When:Nat):Int) by omega,show (i:Int)+1=((i+1:Nat):Int) by omega]
     by_cases hn:c+cnt 400 x.When<=400
     ·refine ih (i+1) (c+cnt 400 x.When) (by omega) (by omega) (by omega) (by omega) λ_=>?_;rw [A2y f,←d g];unfold cnt at hn ⊢;omega
     ·exact ih (i+1) (c+cnt 400 x.When) (by omega) (by omega) (by omega) (by omega) (by omega)
    ·rw [dF (show ¬(i:Int)<(l.length:Int) by omega),Ag (c:=bif false then (decide ((c:Int)<=400)) else false) rfl,dT (show (c:Int)<=400 by omega),At rfl];refine ⟨_,rfl,λhb=>?_⟩;have:=of_decide_eq_true hb;have e:=d g;rw [List.take_of_length_le (by omega)] at e;omega
   ·rw [dF (show ¬(c:Int)<=400 by omega),Ag (c:=bif (decide ((i:Int)<(l.length:Int))) then false else false) (by cases decide ((i:Int)<(l.length:Int))<;>rfl),Ag rfl]
    exact ⟨_,rfl,λh=>by cases h⟩
 exact go F 0 0 (by omega) (by omega) (by omega) (by omega) (λ_=>rfl)
theorem A92 {xs:List zJ} {r:zJ} (l:xs.length<=1000):∀(n j:Nat),xs.length+1<=n+j->j<=xs.length ->
  (∃k:Int,-1<=k/\Ay xs r n j=some k/\(0<=k↔∃i x,j<=i/\xs[i]? = some x/\x.Name=r.Name)):=by
 intro n
 induction n with
 | zero=>intro j f g;omega
 | succ n ih =>
  intro j f g;show ∃k:Int,-1<=k/\B0 xs r _ j=_/\_;unfold B0 P7
  by_cases hj:j<xs.length
  ·have d:=List.getElem?_eq_getElem hj;generalize xs[j]=x at d;rw [At (dT (by omega)),C5 j x rfl d]
   by_cases e:x.Name=r.Name
   ·rw [At (Zg.2 e)];exact ⟨j,by omega,rfl,λ_=>⟨j,x,Nat.le_refl _,d,e⟩,λ_=>by omega⟩
   ·have es:sEq x.Name r.Name=false:=by
     cases h:sEq x.Name r.Name
     ·rfl
     ·exact absurd (Zg.1 h) e
    rw [Ag es,ckb (by omega)];obtain ⟨k,k1,k2,k3⟩:=ih (j+1) (by omega) (by omega);refine ⟨k,k1,k2,k3.trans ⟨λ⟨i,y,a,b⟩=>⟨i,y,by omega,b⟩,λ⟨i,y,a,b,c⟩=>⟨i,y,?_,b,c⟩⟩⟩
    by_cases ei:i=j
    ·subst ei;rw [d] at b;cases b;exact absurd c e
    ·omega
  ·rw [Ag (dF (by omega))];refine ⟨-1,by omega,rfl,λh=>by omega,λ⟨i,x,a,b,_⟩=>?_⟩;have:=(List.getElem?_eq_some_iff.1 b).1;omega
theorem A93 {xs:List zJ} {r:zJ} (c:xs.length<=1000) (hF:1001<=F):∃b,B4 F xs r=some b/\(b=true↔∃(i:Nat) (x:zJ),xs[i]? = some x/\x.Name=r.Name):=by
 obtain ⟨k,k1,k2,k3⟩:=A92 (r:=r) c F 0 (by omega) (by omega);unfold B4 Bq;rw [show Ay xs r F 0=some k from k2,sbd];refine ⟨_,rfl,?_⟩;rw [decide_eq_true_iff];refine Iff.trans (by omega) (k3.trans ⟨λ⟨i,x,_,b⟩=>⟨i,x,b⟩,λ⟨i,x,b⟩=>⟨i,x,Nat.zero_le _,b⟩⟩)
def Dup (l:List zN) (i:Nat) (r:zN):Prop:=∃(j:Nat) (x:zN),j<i/\l[j]? = some x/\x.Name=r.Name
theorem B1b {l:List zN} {r:zN} (q:l.length<=1000) (hi:l[i]? = some r) {k3:Int->Option Int}:∀(n j:Nat),i+1<=n+j->j<=i->(∀(j':Nat) x,j'<j->l[j']? = some x->x.Name≠r.Name) ->
  (Dup l i r/\G5 F l i k3 n j=some 5)\/(¬Dup l i r/\G5 F l i k3 n j=Nb F l i k3):=by
 intro n
 induction n with
 | zero=>intro j k m;omega
 | succ n ih =>
  intro j k m g;have o:=(List.getElem?_eq_some_iff.1 hi).1;show (_/\Kg F l i k3 _ j=_)\/(_/\Kg F l i k3 _ j=_);unfold Kg
  by_cases hj:j<i
  ·have d:=List.getElem?_eq_getElem (l:=l) (i:=j) (by omega);generalize l[j]=x at d;rw [At (dT (by omega)),C5 j x rfl d,C5 i r rfl hi]
   by_cases e:x.Name=r.Name
   ·rw [At (Zg.2 e)];exact .inl ⟨⟨j,x,hj,d,e⟩,rfl⟩
   ·have es:sEq x.Name r.Name=false:=by
     cases h:sEq x.Name r.Name
     ·rfl
     ·exact absurd (Zg.1 h) e
    rw [Ag es,ckb (by omega)];refine ih (j+1) (by omega) (by omega) λj' y p f=>?_
    by_cases ej:j'=j
    ·subst ej;rw [d] at f;cases f;exact e
    ·exact g j' y (by omega) f
  ·rw [Ag (dF (by omega))];refine .inr ⟨λ⟨j',x,a,b,c⟩=>g j' x (by omega) b c,rfl⟩
structure ROk (l:List zN) (i:Nat) (r:zN):Prop where
 name:nameB r.Name=true
 word:∀F,30<=F->sift_word F r.Name=some false
 dup:¬Dup l i r
 deep:dpt r.When<=12
 tree:VT r.When
theorem A8n {l:List zN} (hl:l.length<=40) (hn:Z6 l<=400) (hF:2000<=F):∀(n i:Nat),l.length+1<=n+i->i<=l.length ->
  ∃e,M9 F (l.map cvR) n i=some e/\G4 F l n i=some e/\(e=0->∀(j:Nat) r,i<=j->l[j]? = some r->ROk l j r):=by
 intro n
 induction n with
 | zero=>intro i z h2;omega
 | succ n ih =>
  intro i z h2;show ∃e,Jr F (l.map cvR) _ i=_/\N9 F l _ i=_/\_;unfold Jr N9;rw [List.length_map]
  by_cases hi:i<l.length
  ·have k:=List.getElem?_eq_getElem hi;have m:=List.getElem_mem hi;generalize l[i]=r at k m;have q:(l.map cvR)[i]? = some (cvR r):=by rw [List.getElem?_map,k];rfl
   have b3:=A4l m;obtain ⟨w,v⟩:=B2n r.Name;obtain ⟨w1,w2⟩:=v F (by omega);rw [At (dT (by omega)),At (dT (by omega)),C5 i _ rfl q,C5 i r rfl k,show beam_Name F (cvR r).Name=some (nameB r.Name) from Xf F r.Name,sbd,A4k (by omega),sbd]
   cases t:nameB r.Name
   ·rw [gdF (g:=(!false)==false&&true) rfl,sbd,At (c:=bif !false then true else default) rfl,At (c:=!false) rfl];exact ⟨10,rfl,rfl,λh=>by cases h⟩
   ·rw [gdT (g:=(!true)==false&&true) rfl,show sift_word F (cvR r).Name=some w from w1,sbd,Ag (c:=!true) rfl,C5 i r rfl k,w2,sbd]
    cases u:w
    ·rw [Ag rfl,Ag (c:=!true) rfl,Ag rfl];subst u;rw [show Wb (l.map cvR) 0 (i:Int)=some ((l.map cvR).take i) by unfold Wb;rw [if_pos (by rw [List.length_map];omega)];simp,sbd];obtain ⟨b,b1,b2⟩:=A93 (xs:=(l.map cvR).take i) (r:=cvR r) (by simp;omega) (F:=F) (by omega);have o:b=true↔Dup l i r:=by
      refine b2.trans ⟨λ⟨j,x,a,c⟩=>?_,λ⟨j,x,a,c,d⟩=>?_⟩
      ·have hj:j<i:=by have:=(List.getElem?_eq_some_iff.1 a).1;simp at this;omega
       rw [List.getElem?_take_of_lt hj,List.getElem?_map,Option.map_eq_some_iff] at a;obtain ⟨y,y1,y2⟩:=a;subst y2;exact ⟨j,y,hj,y1,c⟩
      ·exact ⟨j,cvR x,by rw [List.getElem?_take_of_lt a,List.getElem?_map,c];rfl,d⟩
     rw [b1,sbd];rcases B1b (F:=F) (by omega) k (k3:=G4 F l n) F 0 (by omega) (by omega) (λj' x h=>by omega) with ⟨d1,d2⟩|⟨d1,d2⟩
     ·rw [o.2 d1,At rfl,show G5 F l i (G4 F l n) F 0=some 5 from d2];exact ⟨5,rfl,rfl,λh=>by cases h⟩
     ·have hb:b=false:=by
       cases hb:b
       ·rfl
       ·exact absurd (o.1 hb) d1
      rw [hb,Ag rfl,show G5 F l i (G4 F l n) F 0=_ from d2];unfold Nb Ql;obtain ⟨p1,p2⟩:=A8z F r.When (by omega) (by omega);rw [show Fg F (cvR r).When=_ from p2,sbd,C5 i r rfl k,p1,sbd]
      by_cases hd:dpt r.When<=12
      ·obtain ⟨s,s1,⟨c,c1,c2,c3,c4⟩,-⟩:=A87 (F:=F) (n:=r.When) (by omega) (by omega);have b4:=A5j r.When;rw [Ag (dF (by omega)),Ag (dF (by omega)),C5 i r rfl k,c1,sbd]
       cases f:sift_isCondition (cv r.When)
       ·rw [show sift_isCondition (cvR r).When=false from f,gdF (g:=(!false)==false&&true) rfl,sbd,At (c:=bif !false then true else !default) rfl,c4 f,At (c:=!false) rfl];exact ⟨2,rfl,rfl,λh=>by cases h⟩
       ·rw [show sift_isCondition (cvR r).When=true from f,gdT (g:=(!true)==false&&true) rfl,show Bs F (cvR r).When=some s from s1,sbd,c3 f]
        cases hc:c
        ·rw [At (c:=bif !true then true else !false) rfl,At (c:=!false) rfl];exact ⟨2,rfl,rfl,λh=>by cases h⟩
        ·rw [Ag (c:=bif !true then true else !true) rfl,Ag (c:=!true) rfl,ckb (by omega),ckb (by omega)];obtain ⟨e,e1,e2,e3⟩:=ih (i+1) (by omega) (by omega);refine ⟨e,e1,e2,λh0 j x hj p=>?_⟩
         by_cases ej:j=i
         ·subst ej;rw [k] at p
          cases p
          exact ⟨t,λG hG=>(v G hG).1,d1,hd,c2.1 hc⟩
         ·exact e3 h0 j x (by omega) p
      ·rw [At (dT (by omega)),At (dT (by omega))];exact ⟨24,rfl,rfl,λh=>by cases h⟩
    ·rw [At rfl,Ag (c:=!true) rfl,At rfl];exact ⟨10,rfl,rfl,λh=>by cases h⟩
  ·rw [Ag (dF (by omega)),Ag (dF (by omega))];refine ⟨0,rfl,rfl,λ_ j r hj hr=>?_⟩;have:=(List.getElem?_eq_some_iff.1 hr).1;omega
def rrN (p:ByteArray×T):zN:=⟨p.1,p.2.rnode⟩
def rrl (L:List (ByteArray×T)):List zN:=L.map rrN
theorem A6v:∀t:T,nds t.rnode=t.size/\dpt t.rnode=t.depth:=by
 intro t
 induction t with
 | leaf op v=>simp [T.size,T.depth,T.rnode,nds,Vd,dpt,A0q]
 | un op r g a ih=>simp only [T.size,T.depth,T.rnode,nds,Vd,dpt,A0q];omega
 | bin op a b iha ihb=>simp only [T.size,T.depth,T.rnode,nds,Vd,dpt,A0q];omega
theorem B3g (L:List (ByteArray×T)):(rrl L).map cvR=rl L:=by
 unfold rrl rl;rw [List.map_map];apply List.map_congr_left;intro p _;show zJ.mk p.1 (cv p.2.rnode)=_;rw [A47];rfl
theorem Yt:∀(l:List zN),(∀r∈l,VT r.When)->∃L:List (ByteArray×T),l=rrl L/\∀p∈L,okT true p.2
 | [],_=>⟨[],rfl,by simp⟩
 | r::l,h=>by
  obtain ⟨t,ht,e⟩:=h r (by simp);obtain ⟨L,c,d⟩:=Yt l λx f=>h x (by simp [f]);refine ⟨(r.Name,t)::L,?_,λp b=>?_⟩
  rotate_left
  ·rcases List.mem_cons.1 b with rfl|b
   ·exact ht
   ·exact d p b
  rw [c];show r::rrl L=rrN (r.Name,t)::rrl L;unfold rrN;rw [←e]
theorem A8m {l:List zN} (x:l.length<=40) (hn:Z6 l<=400) (hF:2000<=F) :
  ∃e,J5 F (l.map cvR)=some e/\N8 F l=some e/\(e=0->∃L,GoodR L/\l=rrl L):=by
 have go:∀(n i c:Nat),l.length+1<=n+i->i<=l.length->c<=300->c=Z6 (l.take i) ->
   ∃e,Ma F (l.map cvR) n i c=some e/\Nc F l n c i=some e/\(e=0->Z6 l<=300/\∀(j:Nat) r,l[j]? = some r->ROk l j r):=by
  intro n
  induction n with
  | zero=>intro i c k f;omega
  | succ n ih =>
   intro i c k f y v;show ∃e,Js F (l.map cvR) _ i c=_/\Na F l _ c i=_/\_;unfold Js Na;rw [List.length_map]
   by_cases hi:i<l.length
   ·have g:=List.getElem?_eq_getElem hi;generalize l[i]=r at g;have m:(l.map cvR)[i]? = some (cvR r):=by rw [List.getElem?_map,g];rfl
    have s1:=A8w 300 F r.When (by omega) (by omega);have s2:=A1j 300 F r.When (by omega) (by omega);have z:cnt 300 r.When<=301:=by unfold cnt;omega
    rw [At (dT (by omega)),At (dT (by omega)),C5 i _ rfl m,C5 i r rfl g,show Ct F (cvR r).When 300=_ from s1,sbd,show E3 F r.When 300=_ from s2,sbd,ckb (by omega)]
    by_cases hc:c+cnt 300 r.When<=300
    ·rw [Ag (dF (by omega)),ckb (by omega),ckb (by omega),Ag (dF (by omega)),ckb (by omega)];rw [show ((c:Int)+(cnt 300 r.When:Nat))=((c+cnt 300 r.When:Nat):Int) by omega,show (i:Int)+1=((i+1:Nat):Int) by omega];refine ih (i+1) (c+cnt 300 r.When) (by omega) (by omega) (by omega) ?_;rw [A2y g,←v];unfold cnt at hc ⊢;omega
    ·rw [At (dT (by omega)),ckb (by omega),At (dT (by omega))];exact ⟨9,rfl,rfl,λh=>by cases h⟩
   ·rw [Ag (dF (by omega)),Ag (dF (by omega))];obtain ⟨e,e1,e2,e3⟩:=A8n x hn hF F 0 (by omega) (by omega);refine ⟨e,e1,e2,λh0=>⟨?_,λj r o=>e3 h0 j r (by omega) o⟩⟩;rw [List.take_of_length_le (by omega)] at v;omega
 unfold J5 N8;rw [List.length_map]
 by_cases s:l.length<=32
 ·rw [Ag (dF (by omega)),Ag (dF (by omega))];obtain ⟨e,e1,e2,e3⟩:=go F 0 0 (by omega) (by omega) (by omega) rfl;refine ⟨e,e1,e2,λh0=>?_⟩;obtain ⟨g1,g2⟩:=e3 h0;obtain ⟨L,rfl,t⟩:=Yt l λr o=>by
   obtain ⟨i,hi,e⟩:=List.mem_iff_getElem.1 o;exact (g2 i r (by rw [←e];exact List.getElem?_eq_getElem hi)).tree
  have b:∀(i:Nat) p,L[i]? = some p->ROk (rrl L) i (rrN p):=λi p d=>g2 i _ (by unfold rrl;rw [List.getElem?_map,d];rfl);refine ⟨L,⟨by simpa [rrl] using s,?_,λp d F hF=>?_,λi j p q k f u e=>?_,λp d=>⟨t p d,?_⟩⟩,rfl⟩
  ·have:Z6 (rrl L)=(L.map (·.2.size)).sum:=by
    unfold Z6 rrl;rw [List.map_map]
    congr 1
    apply List.map_congr_left;intro p _;exact (A6v p.2).1
   omega
  ·obtain ⟨i,hi,e⟩:=List.mem_iff_getElem.1 d;have:=b i p (by rw [←e];exact List.getElem?_eq_getElem hi);exact ⟨by rw [Xf,show nameB p.1=true from this.name],this.word F hF⟩
  ·refine (b j q f).dup ⟨i,rrN p,u,by unfold rrl;rw [List.getElem?_map,k];rfl,e⟩
  ·obtain ⟨i,hi,e⟩:=List.mem_iff_getElem.1 d;have:=(b i p (by rw [←e];exact List.getElem?_eq_getElem hi)).deep;have f:=(A6v p.2).2;show p.2.depth<=12;have y:dpt p.2.rnode<=12:=this;omega
 ·rw [At (dT (by omega)),At (dT (by omega))];exact ⟨9,rfl,rfl,λh=>by cases h⟩
def Fr (tok:List UInt8):Prop:=tok=[40]\/tok=[41]\/tok=[58]\/tok=[59]
def B50 (c:UInt8):Bool:=c==32||c==40||c==41||c==59||c==58
def lo (f:Nat->List UInt8):Nat->List UInt8->List UInt8
 | _,[]=>[]
 | i,c::s=>(if B50 c=true then f i else [])++c::lo f (i+1) s
section
variable {self_:zA->zA->Option Bool} {q v:zA} {b:Bool}
end
def InSp (x y:zC):Prop:=x.Lo<=y.Lo/\y.Lo<=y.Hi/\y.Hi<=x.Hi
def RV (x y:zE):Prop:=(x=noV/\y=noV)\/(x.has=true/\y.has=true/\InSp x.span y.span)
def RT (t u:Int):Prop:=(1<=t/\t<=3)/\(1<=u/\u<=3)/\(t=2\/u=t)
theorem RT.mx {a c d:Int} (h:RT a b) (h':RT c d):RT (mx a c) (mx b d):=by unfold RT Go.Proofs.YtkjnafecmjakcaaGreatDoor.mx at *;split<;>split<;>omega
theorem RT.mn {a c d:Int} (h:RT a b) (h':RT c d):RT (mn a c) (mn b d):=by unfold RT Go.Proofs.YtkjnafecmjakcaaGreatDoor.mn at *;split<;>split<;>omega
theorem RT.tri {a b c d:Prop} [Decidable a] [Decidable b] [Decidable c] [Decidable d] (f:a->c) (g:¬a->¬b->¬c/\¬d):RT (tri a b) (tri c d):=by
 unfold RT Go.Proofs.YtkjnafecmjakcaaGreatDoor.tri
 by_cases e:a
 ·have:=f e;simp [e,this]
 ·by_cases hb:b
  ·simp only [if_neg e,if_pos hb];refine ⟨by omega,?_,.inl trivial⟩
   split
   ·omega
   ·split<;>omega
  ·have:=g e hb;simp [e,hb,this.1,this.2]
theorem A2i {op:Int} {x x' y':zC} (b:InSp x x') (c:InSp y y'):RT (Y0 op x y) (Y0 op x' y'):=by
 obtain ⟨a1,a2,a3⟩:=b;obtain ⟨b1,b2,b3⟩:=c;unfold Y0
 split
 ·exact RT.tri (by omega) (by omega)
 ·split
  ·exact RT.tri (by omega) (by omega)
  ·split
   ·refine RT.tri ?_ ?_
    ·unfold mx mn;split<;>split<;>split<;>split<;>omega
    ·unfold mx mn;split<;>split<;>split<;>split<;>omega
   ·refine RT.tri ?_ ?_
    ·omega
    ·unfold mx mn;split<;>split<;>split<;>split<;>omega
theorem A79 {op:Int} {x x' y y':zE} (d:RV x x') (e:RV y y'):RT (Zo op x y) (Zo op x' y'):=by
 rcases d with ⟨rfl,rfl⟩|⟨f,g,b⟩
 ·unfold Zo RT;simp [noV]
 ·rcases e with ⟨rfl,rfl⟩|⟨k1,k2,k3⟩
  ·unfold Zo RT;simp [noV]
  ·have n1:¬(x.has=false\/y.has=false):=by simp [f,k1]
   have n2:¬(x'.has=false\/y'.has=false):=by simp [g,k2]
   unfold Zo;simp only [if_neg n1,if_neg n2]
   by_cases c:op=10\/op=11
   ·simp only [if_pos c];exact A2i k3 b
   ·simp only [if_neg c];exact A2i b k3
theorem A89 {op:Int} {x x' y y':zE} (b:RV x x') (d:RV y y'):RV (A0v op x y) (A0v op x' y'):=by
 rcases b with ⟨rfl,rfl⟩|⟨e,f,g⟩
 ·exact .inl ⟨rfl,rfl⟩
 ·rcases d with ⟨rfl,rfl⟩|⟨k1,k2,k3⟩
  ·exact .inl ⟨by unfold A0v;rw [if_pos (.inr rfl)],by unfold A0v;rw [if_pos (.inr rfl)]⟩
  ·refine .inr ?_;have n1:¬(x.has=false\/y.has=false):=by simp [e,k1]
   have n2:¬(x'.has=false\/y'.has=false):=by simp [f,k2]
   unfold InSp at *;unfold A0v;simp only [if_neg n1,if_neg n2]
   by_cases c:op=27
   ·simp only [if_pos c];exact ⟨trivial,trivial,by omega⟩
   ·simp only [if_neg c];exact ⟨trivial,trivial,by omega⟩
theorem A7y {op:Int} {g:Int->Int} (h:∀o∈l,RT (f o) (g o)):RT (Vw op l f) (Vw op l g):=by
 have key:∀(F:Int->Int->Int),(∀a b c d,RT a b->RT c d->RT (F a c) (F b d))->∀(l:List Int),(∀o∈l,RT (f o) (g o))->∀x y,RT x y->RT (l.foldl (λa o=>F a (f o)) x) (l.foldl (λa o=>F a (g o)) y):=by
  intro F hF l
  induction l with
  | nil=>intro _ x y e;exact e
  | cons o l ih=>intro i x y e;exact ih (λp j=>i p (by simp [j])) _ _ (hF _ _ _ _ e (i o (by simp)))
 unfold Vw
 split
 ·exact key Go.Proofs.YtkjnafecmjakcaaGreatDoor.mn (λ_ _ _ _ h h'=>h.mn h') l h 3 3 (by unfold RT;omega)
 ·exact key Go.Proofs.YtkjnafecmjakcaaGreatDoor.mx (λ_ _ _ _ h h'=>h.mx h') l h 1 1 (by unfold RT;omega)
theorem A5e {g:Int->Int} (h:∀o∈l,RT (f o) (g o)):RV (U5 l f) (U5 l g):=by
 refine .inr ⟨rfl,rfl,?_⟩;unfold InSp U5;dsimp only;have key:∀l:List Int,(∀o∈l,RT (f o) (g o))->l.countP (λo=>f o==1)<=l.countP (λo=>g o==1)/\l.countP (λo=>g o==1)<=l.countP (λo=>g o != 3)/\l.countP (λo=>g o != 3)<=l.countP (λo=>f o != 3):=by
  intro l
  induction l with
  | nil=>simp
  | cons o l ih =>
   intro e;have i:=ih λp j=>e p (by simp [j]);obtain ⟨c1,c2,c3⟩:=e o (by simp);simp only [List.countP_cons];have e1:(f o==1)=true->(g o==1)=true:=by rw [beq_iff_eq,beq_iff_eq];omega
   have e2:(g o==1)=true->(g o != 3)=true:=by rw [beq_iff_eq,bne_iff_ne];omega
   have e3:(g o != 3)=true->(f o != 3)=true:=by rw [bne_iff_ne,bne_iff_ne];omega
   cases a:(f o==1)<;>cases b:(g o==1)<;>cases c:(g o != 3)<;>cases d:(f o != 3)<;>simp_all<;>omega
 have:=key l h;omega
structure RE (e e':zD):Prop where
 kind:e'.Kind=e.Kind
 power:InSp e.Power e'.Power
 ratio:InSp e.Ratio e'.Ratio
 mat:InSp e.Match e'.Match
 turn:InSp e.Turn e'.Turn
 step:InSp e.Steps.1 e'.Steps.1
 spread:e'.Spread=e.Spread
structure RS (s s':zF) (R m:Nat):Prop where
 sw:Swp s R m
 sw':Swp s' R m
 tilt:s'.Tilt=s.Tilt
 echo:∀k:Int,0<=k->k<(R*m:Nat)->RE (rowS s k) (rowS s' k)
theorem A2e:RV (pt x) (pt x):=.inr ⟨rfl,rfl,by unfold InSp pt;dsimp only;omega⟩
theorem A3z {x:zC} (h:InSp x y):RV ⟨x,true⟩ ⟨y,true⟩:=.inr ⟨rfl,rfl,h⟩
theorem Sc {c:Prop} [Decidable c] {a b a' b':zE} (d:c->RV a a') (e:¬c->RV b b'):RV (if c then a else b) (if c then a' else b'):=by
 by_cases h:c
 ·rw [if_pos h,if_pos h];exact d h
 ·rw [if_neg h,if_neg h];exact e h
theorem A5n {s':zF} (h:RS s s' R m) {op:Int} (b:0<=k/\k<(R*m:Nat)):RV (T3 s op v k) (T3 s' op v k):=by
 have e:=h.echo k b.1 b.2;unfold T3;rw [e.kind,e.spread,h.tilt,h.sw.hm,h.sw'.hm];exact Sc (λ_=>A2e) λ_=>Sc (λ_=>A2e) λ_=>Sc (λ_=>A2e) λ_=>Sc (λ_=>A2e) λ_=>Sc (λ_=>A2e) λ_=>Sc (λ_=>A3z e.power) λ_=>Sc (λ_=>.inl ⟨rfl,rfl⟩) λ_=>Sc (λ_=>A3z e.ratio) λ_=>Sc (λ_=>A3z e.mat) λ_=>Sc (λ_=>A2e) λ_=>Sc (λ_=>.inl ⟨rfl,rfl⟩) λ_=>Sc (λ_=>A3z e.turn) λ_=>A3z e.step
theorem B0f {s':zF} (h:RS s s' R m):∀(t:T) (k:Int),0<=k/\k<(R*m:Nat)->(okT true t->RT (t.sem s k).1 (t.sem s' k).1)/\(okT false t->RV (t.sem s k).2 (t.sem s' k).2):=by
 have e:=h.sw.R4;have l:=h.sw.m1;have hn:∀{k r g o:Int},o∈nbs s.Rays.length s.Site.Gates k r g->0<=o/\o<(R*m:Nat):=by
  intro k r g o ho;rw [h.sw.hR,h.sw.hm] at ho;have:=B1m (R:=(R:Int)) (m:=(m:Int)) (by omega) (by omega) ho;rw [Int.natCast_mul];exact this
 have d:∀k r g,nbs s'.Rays.length s'.Site.Gates k r g=nbs s.Rays.length s.Site.Gates k r g:=by
  intro k r g;rw [h.sw.hR,h.sw.hm,h.sw'.hR,h.sw'.hm]
 intro t
 induction t with
 | leaf op v =>
  intro k c;refine ⟨λho=>?_,λ_=>A5n h c⟩;show RT (if op=1 then 1 else 3) (if op=1 then 1 else 3);unfold RT;split<;>omega
 | un op r g a ih =>
  intro k c;simp only [T.sem];rw [d];refine ⟨λho=>?_,λho=>?_⟩
  ·simp only [okT] at ho
   by_cases f:op=3
   ·rw [if_pos f,if_pos f];have:=(ih k c).1 ho.2;unfold RT at *;omega
   ·rw [if_neg f,if_neg f];exact A7y λo hm=>(ih o (hn hm)).1 ho.2
  ·simp only [okT] at ho;exact A5e λo hm=>(ih o (hn hm)).1 ho.2
 | bin op a b iha ihb =>
  intro k c;simp only [T.sem];refine ⟨λho=>?_,λho=>?_⟩
  ·simp only [okT] at ho;rcases ho with ho|ho
   ·have i:=(iha k c).1 ho.2.1;have j:=(ihb k c).1 ho.2.2
    by_cases e:op=4
    ·rw [if_pos e,if_pos e];exact i.mx j
    ·rw [if_neg e,if_neg e,if_pos (by omega),if_pos (by omega)];exact i.mn j
   ·rw [if_neg (by omega),if_neg (by omega),if_neg (by omega),if_neg (by omega)];exact A79 ((iha k c).2 ho.2.2.1) ((ihb k c).2 ho.2.2.2)
  ·simp only [okT] at ho;exact A89 ((iha k c).2 ho.2.1) ((ihb k c).2 ho.2.2.1)
section
variable {a i:Int}
end
theorem Y9 {q j m:Int} (h0:0<=j) (b:j<m):(q*m+j)/m=q:=by
 rw [Int.mul_comm,Int.add_comm,Int.add_mul_ediv_left _ _ (by omega),Int.ediv_eq_zero_of_lt h0 b];omega
theorem Ya {q j m:Int} (h0:0<=j) (b:j<m):(q*m+j)%m=j:=by
 rw [Int.mul_comm,Int.add_comm,Int.add_mul_emod_self_left,Int.emod_eq_of_lt h0 b]
theorem B2r (o m:Int):o/m*m+o%m=o:=Int.ediv_mul_add_emod o m
theorem Xe {R m o:Int} (hR:1<=R) (hm:1<=m) (l:0<=g):o∈nb1 R m k g b↔o≠k/\o/m=(b+R)%R/\0<=o%m/\o%m<m/\k%m-g<=o%m/\o%m<=k%m+g:=by
 have i:0<=k%m/\k%m<m:=⟨Int.emod_nonneg _ (by omega),Int.emod_lt_of_pos _ (by omega)⟩;unfold nb1;rw [List.mem_filter,bne_iff_ne,List.mem_map];constructor
 ·rintro ⟨⟨j,e,rfl⟩,f⟩;have d:=Ty.1 e;have a:0<=j:=by have:=d.1;split at this<;>omega
  have c:j<m:=by have:=d.2;split at this<;>omega
  rw [Y9 a c,Ya a c];refine ⟨f,rfl,a,c,?_,?_⟩
  ·have:=d.1;split at this<;>omega
  ·have:=d.2;split at this<;>omega
 ·rintro ⟨e,f,d,n,p,q⟩;refine ⟨⟨o%m,Ty.2 ⟨?_,?_⟩,?_⟩,e⟩
  ·split<;>omega
  ·split<;>omega
  ·rw [←f];exact B2r o m
theorem A0l {R m o:Int} (hR:1<=R) (hm:1<=m) (p:0<=k/\k<R*m) (q:0<=r) (j:0<=g) :
  o∈nbs R m k r g↔o≠k/\0<=o/\o<R*m/\k%m-g<=o%m/\o%m<=k%m+g/\∃d,-r<=d/\d<=r/\(k/m+d)%R=o/m:=by
 have s:0<=k/m/\k/m<R:=⟨Int.ediv_nonneg p.1 (by omega),Int.ediv_lt_of_lt_mul (by omega) p.2⟩;have e:0<=o%m/\o%m<m:=⟨Int.emod_nonneg _ (by omega),Int.emod_lt_of_pos _ (by omega)⟩;have i:∀b,o/m=(b+R)%R->0<=o/\o<R*m:=by
  intro b h;have l:=B2r o m;rw [←l,h];exact Zy (Int.emod_nonneg _ (by omega)) (Int.emod_lt_of_pos _ (by omega)) e.1 e.2
 have f:∀x:Int,(x+R)%R=x%R:=λx=>Int.add_emod_right ..;unfold nbs;rw [List.mem_flatMap]
 by_cases c:k/m+r-(k/m-r)>=R
 ·rw [if_pos c];constructor
  ·rintro ⟨b,l,n⟩;obtain ⟨n1,n2,n3,n4,n5,n6⟩:=(Xe hR hm j).1 n;obtain ⟨z1,z2⟩:=i b n2;refine ⟨n1,z1,z2,n5,n6,(o/m-k/m+r)%R-r,?_,?_,?_⟩
   ·have:=Int.emod_nonneg (o/m-k/m+r) (show R≠0 by omega);omega
   ·have:=Int.emod_lt_of_pos (o/m-k/m+r) (show 0<R by omega);omega
   ·rw [show k/m+((o/m-k/m+r)%R-r)=(o/m-k/m+r)%R+(k/m-r) by omega,Int.emod_add_emod,show o/m-k/m+r+(k/m-r)=o/m by omega];rw [n2,Int.emod_emod_of_dvd _ (Int.dvd_refl R)]
  ·rintro ⟨n1,z1,z2,n5,n6,d,d1,d2,d3⟩;have hb:0<=o/m/\o/m<R:=⟨Int.ediv_nonneg z1 (by omega),Int.ediv_lt_of_lt_mul (by omega) z2⟩;exact ⟨o/m,Ty.2 ⟨hb.1,by omega⟩,(Xe hR hm j).2 ⟨n1,by rw [f,Int.emod_eq_of_lt hb.1 hb.2],e.1,e.2,n5,n6⟩⟩
 ·rw [if_neg c];constructor
  ·rintro ⟨b,l,n⟩;obtain ⟨n1,n2,n3,n4,n5,n6⟩:=(Xe hR hm j).1 n;obtain ⟨z1,z2⟩:=i b n2;have hb:=Ty.1 l;exact ⟨n1,z1,z2,n5,n6,b-k/m,by omega,by omega,by rw [show k/m+(b-k/m)=b by omega,n2,f]⟩
  ·rintro ⟨n1,z1,z2,n5,n6,d,d1,d2,d3⟩;exact ⟨k/m+d,Ty.2 ⟨by omega,by omega⟩,(Xe hR hm j).2 ⟨n1,by rw [f,d3],e.1,e.2,n5,n6⟩⟩
def Nr (R m k o:Int) (x:Int×Int):Prop:=k%m-x.2<=o%m/\o%m<=k%m+x.2/\∃d,-x.1<=d/\d<=x.1/\(k/m+d)%R=o/m
theorem Nr.trans {R m o p:Int} {x y:Int×Int} (h:Nr R m k o x) (h':Nr R m o p y):Nr R m k p (y.1+x.1,y.2+x.2):=by
 obtain ⟨a1,a2,d,d1,d2,d3⟩:=h;obtain ⟨b1,b2,e,e1,e2,e3⟩:=h';refine ⟨by dsimp only;omega,by dsimp only;omega,d+e,by dsimp only;omega,by dsimp only;omega,?_⟩;rw [←d3,Int.emod_add_emod] at e3;rw [←e3];congr 1;omega
theorem Nr.mono {R m o:Int} {x y:Int×Int} (h:Nr R m k o x) (b:x.1<=y.1) (c:x.2<=y.2):Nr R m k o y:=by
 obtain ⟨a1,a2,d,d1,d2,d3⟩:=h;exact ⟨by omega,by omega,d,by omega,by omega,d3⟩
theorem A2q (lo hi:Int):(irg lo hi).Nodup:=by
 unfold irg;rw [List.nodup_iff_pairwise_ne,List.pairwise_map];exact (List.nodup_iff_pairwise_ne.1 List.nodup_range).imp λh=>by omega
theorem A7w {R m:Int} (hR:1<=R) (hm:1<=m) (i:0<=g):(nbs R m k r g).Nodup:=by
 unfold nbs;rw [List.nodup_iff_pairwise_ne,List.pairwise_flatMap];constructor
 ·intro b _;unfold nb1;refine List.Pairwise.filter _ ?_;rw [List.pairwise_map];exact (List.nodup_iff_pairwise_ne.1 (A2q _ _)).imp λh=>by omega
 ·have key:∀(lo hi:Int),hi-lo<R->(irg lo hi).Pairwise λa b=>∀x∈nb1 R m k g a,∀y∈nb1 R m k g b,x≠y:=by
   intro lo hi l;refine List.Pairwise.imp_of_mem ?_ (List.nodup_iff_pairwise_ne.1 (A2q lo hi));intro a b j hb n x o y p e;have j:=Ty.1 j;have hb:=Ty.1 hb;have x2:=((Xe hR hm i).1 o).2.1;have y2:=((Xe hR hm i).1 p).2.1;rw [e,y2] at x2;rw [Int.add_emod_right,Int.add_emod_right] at x2;have d:=Int.emod_emod_of_dvd (b-a) (Int.dvd_refl R);have z:(b-a)%R=0:=by rw [Int.sub_emod,x2,Int.sub_self];rfl
   have z2:=Int.dvd_of_emod_eq_zero z;obtain ⟨c,q⟩:=z2;have f:c=0:=by
    by_cases c1:1<=c
    ·have:=Int.mul_le_mul_of_nonneg_left c1 (show 0<=R by omega);omega
    ·by_cases c2:c<=-1
     ·have:=Int.mul_le_mul_of_nonneg_left c2 (show 0<=R by omega);omega
     ·omega
   rw [f] at q;omega
  split
  ·exact key _ _ (by omega)
  ·exact key _ _ (by omega)
section
variable (h:GoodR L) (hF:2000<=F)
end
section
variable {self_:zG->Bool->Option zG} {p u v:zG} {b:Bool}
end
section
variable {self_:zA->zG->Option Bool} {q v:zG}
end
theorem A3d {l:List α} {i:Int} {f:α->Option β} (d:α) (h:0<=i/\i<l.length):(getI l i).bind f=f (l.getD i.toNat d):=by
 unfold getI;rw [if_pos h.1,List.getElem?_eq_getElem (by omega),List.getD_eq_getElem?_getD,List.getElem?_eq_getElem (by omega)];rfl
def Sb (s:zC):Bool:=decide (-32768<=s.Lo/\s.Lo<=32767/\s.Lo<=s.Hi/\s.Hi<=s.Lo+65535)
theorem A83 (F:Nat) (s:zC):N7 F s=some (Sb s):=by
 unfold N7 Ao Sb
 by_cases h:-32768<=s.Lo/\s.Lo<=32767
 ·have e:(bif decide (s.Lo>=-32768) then decide (s.Lo<=32767) else false)=true:=by simp [h.1,h.2]
  rw [e,gdT (g:=true==true&&true) rfl,ckb (by omega),gdT (g:=true==true&&true) rfl,ckb (by omega)];simp [cond_eq_ite]
  grind
 ·have e:(bif decide (s.Lo>=-32768) then decide (s.Lo<=32767) else false)=false:=by simp [cond_eq_ite];omega
  rw [e,gdF (g:=false==true&&true) rfl,sbd,gdF (g:=false==true&&true) rfl,sbd];simp
  grind
theorem Vt (p:List zC) (k:Int->Option Bool) (i:Nat) (s:zC) (h:p[i]? = some s) (hi:i<1000):Eh p k (i:Int)=if Sb s then k ((i:Int)+1) else some false:=by
 have d:=(List.getElem?_eq_some_iff.1 h).1;unfold Eh;rw [At (by simpa using d),A3d s (by omega)];simp only [List.getD_eq_getElem?_getD,Int.toNat_natCast,h,Option.getD_some];unfold Sb B1
 by_cases b:-32768<=s.Lo/\s.Lo<=32767
 ·have e:(bif decide (-32768<=s.Lo) then decide (s.Lo<=32767) else false)=true:=by simp [b.1,b.2]
  rw [e,gdT (g:=(!true)==false&&true) rfl,ckb (by omega),gdT (g:=(!true)==false&&true) rfl,ckb (by omega),ckb (by omega)];have e2:s.Lo+65536-1=s.Lo+65535:=by omega
  rw [e2]
  by_cases c:s.Lo<=s.Hi/\s.Hi<=s.Lo+65535
  ·rw [if_pos (by simp [b,c])];simp [c]
  ·rw [if_neg (by simp;intro _ _ f;omega)];have:(bif decide (s.Lo<=s.Hi) then decide (s.Hi<=s.Lo+65535) else false)=false:=by simp [cond_eq_ite];omega
   rw [this];rfl
 ·have e:(bif decide (-32768<=s.Lo) then decide (s.Lo<=32767) else false)=false:=by simp [cond_eq_ite];omega
  rw [e,gdF (g:=(!false)==false&&true) rfl,sbd,gdF (g:=(!false)==false&&true) rfl,sbd,if_neg (by simp;intro j c;omega)];rfl
theorem A01 (F:Nat) (hF:4<=F) (a b c:zC):Rm F [a,b,c]=some (Sb a&&Sb b&&Sb c):=by
 obtain ⟨n,rfl⟩:∃n,F=n+4:=⟨F-4,by omega⟩;show Eh [a,b,c] (Fu [a,b,c] (n+3)) ((0:Nat):Int)=_;rw [Vt _ _ 0 a rfl (by omega)]
 cases d:Sb a
 ·rfl
 ·show Eh [a,b,c] (Fu [a,b,c] (n+2)) ((1:Nat):Int)=_;rw [Vt _ _ 1 b rfl (by omega)]
  cases hb:Sb b
  ·rfl
  ·show Eh [a,b,c] (Fu [a,b,c] (n+1)) ((2:Nat):Int)=_;rw [Vt _ _ 2 c rfl (by omega)]
   cases e:Sb c
   ·rfl
   ·rfl
def inB (s:zC) (lo hi:Int):Bool:=decide (lo<=s.Lo/\s.Lo<=s.Hi/\s.Hi<=hi)
def noB (s:zC):Bool:=decide (s.Lo=0/\s.Hi=0)
def A00 (x:zD):Bool :=
 inB x.Power 0 1073741824&&(if x.Kind=1 then decide (x.Power.Lo=0)&&noB x.Steps.1&&noB x.Steps.2&&decide (x.Spread=0)&&noB x.Ratio&&noB x.Match&&noB x.Turn
  else decide (1<=x.Power.Lo)&&inB x.Ratio 0 1000000&&inB x.Match 0 1000&&decide (0<=x.Spread/\x.Spread<=65535) &&
   (if x.Kind=2 then noB x.Steps.1&&noB x.Steps.2&&noB x.Turn else Sb x.Steps.1&&Sb x.Steps.2&&Sb x.Turn))
def Tu (x:zD):Int:=if x.Kind≠1/\x.Kind≠2/\x.Kind≠3 then 2 else if A00 x=true then 0 else 3
theorem A7m (s:zC) (lo hi:Int):Au s lo hi=inB s lo hi:=by
 unfold Au inB;rw [Bool.eq_iff_iff];simp [cond_eq_ite];omega
theorem B0v (s:zC) (lo hi:Int):Ei s lo hi=inB s lo hi:=by
 unfold Ei inB;rw [Bool.eq_iff_iff];simp [cond_eq_ite];omega
theorem B2w (s:zC):(((s.Lo:Int)==0)&&(((s.Hi:Int)==0)&&true))=noB s:=by
 unfold noB;rw [Bool.eq_iff_iff];simp
theorem A4x (s:zC):zC.mk s.Lo s.Hi=s:=rfl
theorem A48 (p1:zD):(zD.mk p1.Kind p1.Power ((zC.mk p1.Steps.1.Lo p1.Steps.1.Hi),(zC.mk p1.Steps.2.Lo p1.Steps.2.Hi)) p1.Spread p1.Ratio p1.Match p1.Turn)=p1:=rfl
theorem A60 (F:Nat) (hF:4<=F) (x:zD):Lr F x=some (Tu x):=by
 unfold Lr Dk J0 Dk Tu A00 B1;simp only [A4x,A7m,B2w,A01 F hF,Option.bind_some]
 by_cases b:x.Kind=1
 ·simp [b,cond_eq_ite];grind
 ·by_cases c:x.Kind=2
  ·simp [c,cond_eq_ite];grind
  ·by_cases d:x.Kind=3
   ·simp [d,cond_eq_ite];grind
   ·simp [b,c,d,cond_eq_ite]
theorem B05 (F:Nat) (x:zD):Lu F x=some (Tu x):=by
 unfold Lu Tu A00 Ao;simp only [A4x,B0v,B2w,A83,Option.bind_some]
 by_cases b:x.Kind=1
 ·simp [b,cond_eq_ite];grind
 ·by_cases c:x.Kind=2
  ·simp [c,cond_eq_ite];grind
  ·by_cases d:x.Kind=3
   ·simp [d,cond_eq_ite];unfold gd
    cases Sb x.Steps.1<;>cases Sb x.Steps.2<;>cases Sb x.Turn<;>simp<;>grind
   ·simp [b,c,d,cond_eq_ite]
theorem B4n (x lo hi:Int):Ao x lo hi=Ap x lo hi:=rfl
theorem B0i (hF:100<=F) (s:zP):Lt F s=Cv F s:=by
 rw [Lt,Cv,A4k hF,Xf,sbd,sbd];simp only [B4n,D8,Cn]
 cases nameB s.Name<;>cases Ap s.X (-1048576) 1048576<;>cases Ap s.Y (-1048576) 1048576<;>cases Ap s.Z 0 20000<;>cases Ap s.Rose 1 90<;>cases Ap s.Gates 1 200<;>cases Ap s.Step 50 2000<;>cases Ap s.Width 0 8<;>rfl
def A06:List zD->Int
 | []=>0
 | x::l=>if Tu x=0 then A06 l else Tu x
def Ze:List (List zD)->Int
 | []=>0
 | u::l=>if A06 u=0 then Ze l else A06 u
def A0k (g:Int) (X:List (List zD)):List (List zD)->Int
 | []=>Ze X
 | u::l=>if (u.length:Int)=g then A0k g X l else 11
theorem X4 {l:List α} (h:i<l.length) (d:α):l.drop i=l.getD i d::l.drop (i+1):=by
 rw [List.drop_eq_getElem_cons h,List.getD_eq_getElem?_getD,List.getElem?_eq_getElem h];rfl
theorem B5e (F:Nat) (hF:4<=F) (u:List zD) (c:u.length<=1000) (x:Int) (k3:Int->Option Int) (d:0<=x/\x<=1000):∀(q N i:Nat),i+q=u.length->q<N ->
  Du F x k3 u N (i:Int)=if A06 (u.drop i)=0 then k3 (x+1) else some (A06 (u.drop i)):=by
 intro q
 induction q with
 | zero =>
  intro N i hi b;obtain ⟨N,rfl⟩:∃N',N=N'+1:=⟨N-1,by omega⟩;show Dr F x k3 u (Du F x k3 u N) (i:Int)=_;unfold Dr K2;rw [Ag (dF (by omega)),List.drop_eq_nil_of_le (by omega),ckb (by omega)];rfl
 | succ q ih =>
  intro N i hi b;obtain ⟨N,rfl⟩:∃N',N=N'+1:=⟨N-1,by omega⟩;show Dr F x k3 u (Du F x k3 u N) (i:Int)=_;unfold Dr;have:=ih N (i+1) (by omega) (by omega);rw [Int.natCast_add] at this;rw [At (dT (by omega)),A3d default (by omega),Int.toNat_natCast,A48,A60 F hF,sbd,X4 (i:=i) (by omega) default];unfold A06
  by_cases h:Tu (u.getD i default)=0
  ·rw [Ag (by rw [h];rfl),ckb (by omega),if_pos h];exact this
  ·rw [At (by simpa only [bne_iff_ne,ne_eq] using h),if_neg h,if_neg h]
theorem B4b (F:Nat) (hF:2000<=F) (s:zF) (e:s.Rays.length<=1000) (c:∀r∈s.Rays,r.length<=1000):∀(q N i:Nat),i+q=s.Rays.length->q<N ->
  D4 F s N (i:Int)=some (Ze (s.Rays.drop i)):=by
 intro q
 induction q with
 | zero =>
  intro N i hi d;obtain ⟨N,rfl⟩:∃N',N=N'+1:=⟨N-1,by omega⟩;show Dq F s (D4 F s N) (i:Int)=_;unfold Dq;rw [Ag (dF (by omega)),List.drop_eq_nil_of_le (by omega)];rfl
 | succ q ih =>
  intro N i hi d;obtain ⟨N,rfl⟩:∃N',N=N'+1:=⟨N-1,by omega⟩;show Dq F s (D4 F s N) (i:Int)=_;unfold Dq;have hm:s.Rays.getD i []∈s.Rays:=by rw [List.getD_eq_getElem?_getD,List.getElem?_eq_getElem (by omega:i<s.Rays.length)];exact List.getElem_mem _
  have b:=c _ hm;rw [At (dT (by omega)),A3d [] (by omega),Int.toNat_natCast];refine Eq.trans (B5e F (by omega) (s.Rays.getD i []) b (i:Int) (D4 F s N) (by omega) (s.Rays.getD i []).length F 0 (by omega) (by omega)) ?_;rw [List.drop_zero,X4 (i:=i) (l:=s.Rays) (by omega) []];have:=ih N (i+1) (by omega) (by omega);rw [Int.natCast_add] at this;unfold Ze
  by_cases h:A06 (s.Rays.getD i [])=0
  ·rw [if_pos h,if_pos h];exact this
  ·rw [if_neg h,if_neg h]
theorem B5f (F:Nat) (hF:4<=F) (s:zF) (c:a<s.Rays.length) (d:s.Rays.length<=1000) (e:(s.Rays.getD a []).length<=1000) (k3:Int->Option Int):∀(q N i:Nat),i+q=(s.Rays.getD a []).length->q<N ->
  Dz F s (a:Int) k3 N (i:Int)=if A06 ((s.Rays.getD a []).drop i)=0 then k3 ((a:Int)+1) else some (A06 ((s.Rays.getD a []).drop i)):=by
 intro q
 induction q with
 | zero =>
  intro N i hi b;obtain ⟨N,rfl⟩:∃N',N=N'+1:=⟨N-1,by omega⟩;show Dx F s (a:Int) k3 (Dz F s (a:Int) k3 N) (i:Int)=_;unfold Dx K4;rw [A3d [] (by omega),Int.toNat_natCast,Ag (dF (by omega)),List.drop_eq_nil_of_le (by omega),ckb (by omega)];rfl
 | succ q ih =>
  intro N i hi b;obtain ⟨N,rfl⟩:∃N',N=N'+1:=⟨N-1,by omega⟩;show Dx F s (a:Int) k3 (Dz F s (a:Int) k3 N) (i:Int)=_;unfold Dx;have:=ih N (i+1) (by omega) (by omega);rw [Int.natCast_add] at this;rw [A3d [] (by omega),Int.toNat_natCast,At (dT (by omega)),A3d [] (by omega),Int.toNat_natCast,A3d default (by omega),Int.toNat_natCast,A48,B05 F,sbd,X4 (i:=i) (by omega) default];unfold A06
  by_cases h:Tu ((s.Rays.getD a []).getD i default)=0
  ·rw [Ag (by rw [h];rfl),ckb (by omega),if_pos h];exact this
  ·rw [At (by simpa only [bne_iff_ne,ne_eq] using h),if_neg h,if_neg h]
theorem B4e (F:Nat) (hF:2000<=F) (s:zF) (c:s.Rays.length<=1000) (d:∀r∈s.Rays,r.length<=1000):∀(q N i:Nat),i+q=s.Rays.length->q<N ->
  D5 F s N (i:Int)=some (Ze (s.Rays.drop i)):=by
 intro q
 induction q with
 | zero =>
  intro N i hi e;obtain ⟨N,rfl⟩:∃N',N=N'+1:=⟨N-1,by omega⟩;show Dw F s (D5 F s N) (i:Int)=_;unfold Dw;rw [Ag (dF (by omega)),List.drop_eq_nil_of_le (by omega)];rfl
 | succ q ih =>
  intro N i hi e;obtain ⟨N,rfl⟩:∃N',N=N'+1:=⟨N-1,by omega⟩;show Dw F s (D5 F s N) (i:Int)=_;unfold Dw;have hm:s.Rays.getD i []∈s.Rays:=by rw [List.getD_eq_getElem?_getD,List.getElem?_eq_getElem (by omega:i<s.Rays.length)];exact List.getElem_mem _
  have b:=d _ hm;rw [At (dT (by omega))];refine Eq.trans (B5f F (by omega) s (a:=i) (by omega) c b (D5 F s N) (s.Rays.getD i []).length F 0 (by omega) (by omega)) ?_;rw [List.drop_zero,X4 (i:=i) (l:=s.Rays) (by omega) []];have:=ih N (i+1) (by omega) (by omega);rw [Int.natCast_add] at this;unfold Ze
  by_cases h:A06 (s.Rays.getD i [])=0
  ·rw [if_pos h,if_pos h];exact this
  ·rw [if_neg h,if_neg h]
def Un (F:Nat) (s:zF):Option Int :=
 (Cv F s.Site).bind λe=>if e≠0 then some e else if ¬(0<=s.Tilt/\s.Tilt<=256/\0<=s.Time/\s.Time<=4294967296) then some 3 else
  if (s.Rays.length:Int)≠4*s.Site.Rose then some 11 else some (A0k s.Site.Gates s.Rays s.Rays)
theorem A08 (F:Nat) (s:zP) (h:Cv F s=some 0):1<=s.Rose/\s.Rose<=90:=by
 unfold Cv at h;rw [Xf,sbd] at h;simp only [D8,Cn] at h;have b:Ap s.Rose 1 90=true:=by
  cases hb:Ap s.Rose 1 90 with
  | true=>rfl
  | false =>
   exfalso;rw [hb] at h;revert h
   cases nameB s.Name<;>cases Ap s.X (-1048576) 1048576<;>cases Ap s.Y (-1048576) 1048576<;>cases Ap s.Z 0 20000<;>simp
 unfold Ap at b
 revert b
 cases c:decide (1<=s.Rose)<;>simp at c ⊢
 omega
theorem V1 (F:Nat) (s:zP):∃e,Cv F s=some e:=by
 unfold Cv;rw [Xf,sbd];simp only [D8,Cn]
 cases nameB s.Name<;>cases Ap s.X (-1048576) 1048576<;>cases Ap s.Y (-1048576) 1048576<;>cases Ap s.Z 0 20000<;>cases Ap s.Rose 1 90<;>cases Ap s.Gates 1 200<;>cases Ap s.Step 50 2000<;>cases Ap s.Width 0 8<;>exact ⟨_,rfl⟩
theorem B36 (s:zF) (w:Int->Int->Int->Bool) (b:∀x lo hi,w x lo hi=decide (lo<=x/\x<=hi)):(bif (!(w s.Tilt 0 256)) then true else (!(w s.Time 0 4294967296)))=decide (¬(0<=s.Tilt/\s.Tilt<=256/\0<=s.Time/\s.Time<=4294967296)):=by
 rw [b,b,Bool.eq_iff_iff];simp only [cond_eq_ite,Bool.if_true_left,Bool.or_eq_true,Bool.not_eq_true',decide_eq_false_iff_not,decide_eq_true_eq];omega
theorem B2y (x lo hi:Int):B1 x lo hi=decide (lo<=x/\x<=hi):=by
 unfold B1
 by_cases h:lo<=x<;>simp [h]
theorem B23:∀{u:List zD},A06 u=0->∀x∈u,Tu x=0:=by
 intro u
 induction u with
 | nil=>intro _ x b;cases b
 | cons y u ih =>
  intro h x b;unfold A06 at h
  split at h
  ·rename_i h0
   rcases List.mem_cons.1 b with rfl|b
   ·exact h0
   ·exact ih h x b
  ·rename_i h0;exact absurd h h0
theorem B0b:∀{X:List (List zD)},Ze X=0->∀u∈X,∀x∈u,Tu x=0:=by
 intro X
 induction X with
 | nil=>intro _ u b;cases b
 | cons v X ih =>
  intro h u b;unfold Ze at h
  split at h
  ·rename_i h0
   rcases List.mem_cons.1 b with rfl|b
   ·exact B23 h0
   ·exact ih h u b
  ·rename_i h0;exact absurd h h0
theorem A9m {X:List (List zD)}:∀{Y:List (List zD)},A0k g X Y=0->(∀u∈Y,(u.length:Int)=g)/\Ze X=0:=by
 intro Y
 induction Y with
 | nil=>intro h;exact ⟨λu b=>(by cases b),h⟩
 | cons v Y ih =>
  intro h;unfold A0k at h
  split at h
  ·rename_i h0
   obtain ⟨c,d⟩:=ih h;refine ⟨λu b=>?_,d⟩;rcases List.mem_cons.1 b with rfl|b
   ·exact h0
   ·exact c u b
  ·cases h
theorem B0o (h:Un F s=some 0):(∀u∈s.Rays,(u.length:Int)=s.Site.Gates)/\∀u∈s.Rays,∀x∈u,Tu x=0:=by
 unfold Un at h;obtain ⟨e,he⟩:=V1 F s.Site;rw [he,sbd] at h
 split at h
 ·rename_i h0;exact absurd (Option.some.inj h) h0
 ·split at h
  ·cases h
  ·split at h
   ·cases h
   ·have:=A9m (Option.some.inj h);exact ⟨this.1,B0b this.2⟩
theorem A64:∃e,Un F s=some e:=by
 unfold Un;obtain ⟨e,he⟩:=V1 F s.Site;rw [he,sbd]
 repeat' split
 all_goals exact ⟨_,rfl⟩
theorem B5q {R:Int} (hR:4<=R) (c:-3<=x):(x.tmod R+R)%R=x%R/\-3<=x.tmod R/\x.tmod R<R:=by
 by_cases h:0<=x
 ·rw [Int.tmod_eq_emod_of_nonneg h];have:=Int.emod_nonneg x (show R≠0 by omega);have:=Int.emod_lt_of_pos x (show 0<R by omega);exact ⟨by rw [Int.add_emod_right,Int.emod_emod_of_dvd _ (Int.dvd_refl R)],by omega,by omega⟩
 ·have e:x.tmod R=x:=by
   have d:(-x).tmod R=-x:=Int.tmod_eq_of_lt (by omega) (by omega);have b:(-(-x)).tmod R=-((-x).tmod R):=Int.neg_tmod _ _;rw [Int.neg_neg,d,Int.neg_neg] at b;exact b
  rw [e];exact ⟨Int.add_emod_right _ _,c,by omega⟩
theorem B4l {R:Int} (hR:4<=R) {f:Int->Option β}:(Wr x R).bind f=f (x.tmod R):=by
 unfold Wr;rw [if_neg (by omega)];rfl
theorem B09 (hR:4<=R/\R<=1000) (hm:1<=m/\m<=1000) {a i j:Int} (t:0<=a/\a<R) (hi:0<=i/\i<m) (hb:0<=b/\b<R) (hj:0<=j/\j<m) (u:0<=r/\r<=3) (v:0<=g/\g<=3) (hF:20<=F) :
  Tk F R a i b j r g=some (decide (b*m+j∈nbs R m (a*m+i) r g)):=by
 have go:∀(n:Nat) (d:Int),(r+1-d).toNat+1<=n->-r<=d->d<=r+1->∃c,Pk R a b r n d=some c/\(c=true↔∃e,d<=e/\e<=r/\(a+e)%(R:Int)=b):=by
  intro n
  induction n with
  | zero=>intro d h;omega
  | succ n ih =>
   intro d l p z;show ∃c,Pj R a b r _ d=_/\_;unfold Pj Rt
   by_cases hd:d<=r
   ·obtain ⟨t1,t2,t3⟩:=B5q (R:=(R:Int)) (x:=a+d) (by omega) (by omega);rw [At (dT hd),ckb (by omega),B4l (by omega),ckb (by omega),B06 (by omega) (by omega),t1]
    by_cases e:(a+d)%(R:Int)=b
    ·rw [At (eqT e)];exact ⟨true,rfl,λ_=>⟨d,by omega,hd,e⟩,λ_=>rfl⟩
    ·rw [Ag (eqF e),ckb (by omega)];obtain ⟨c,c1,c2⟩:=ih (d+1) (by omega) (by omega) (by omega);refine ⟨c,c1,c2.trans ⟨?_,?_⟩⟩
     ·rintro ⟨x,x1,x2,x3⟩;exact ⟨x,by omega,x2,x3⟩
     ·rintro ⟨x,x1,x2,x3⟩;refine ⟨x,?_,x2,x3⟩
      by_cases ex:x=d
      ·subst ex;exact absurd x3 e
      ·omega
   ·rw [Ag (dF hd)];exact ⟨false,rfl,λh=>(by cases h),λ⟨x,x1,x2,_⟩=>by omega⟩
 have y:=Zy t.1 t.2 hi.1 hi.2;have ho:=Zy hb.1 hb.2 hj.1 hj.2;have f:=A0l (R:=(R:Int)) (m:=(m:Int)) (k:=a*m+i) (r:=r) (g:=g) (o:=b*m+j) (by omega) (by omega) y u.1 v.1;rw [Y9 hi.1 hi.2,Ya hi.1 hi.2,Y9 hj.1 hj.2,Ya hj.1 hj.2] at f;have q:b*m+j≠a*m+i↔¬(a=b/\i=j):=by
  constructor
  ·rintro h ⟨rfl,rfl⟩;exact h rfl
  ·intro h e;have l:=congrArg (· / (m:Int)) e;have p:=congrArg (·%(m:Int)) e;rw [Y9 hi.1 hi.2,Y9 hj.1 hj.2] at l;rw [Ya hi.1 hi.2,Ya hj.1 hj.2] at p;exact h ⟨l.symm,p.symm⟩
 unfold Tk
 by_cases hs:a=b/\i=j
 ·rw [At (eqT hs.1),eqT hs.2,gdF (g:=true==false&&true) rfl,sbd,gdF (g:=(bif true then true else decide (j>0))==false&&true) rfl,sbd,At (c:=bif (bif true then true else decide (j>0)) then true else decide (j<0)) rfl];rw [dF λh=>q.1 (f.1 h).1 hs]
 ·have s:(bif (a==b) then (i==j) else false)=false:=by
   by_cases e:a=b
   ·rw [eqT e,At rfl];exact eqF λe2=>hs ⟨e,e2⟩
   ·rw [eqF e];rfl
  rw [s,gdT (g:=false==false&&true) rfl,ckb (by omega)]
  by_cases l:j>i+g
  ·rw [dT l,gdF (g:=(bif false then true else true)==false&&true) rfl,sbd,At (c:=bif (bif false then true else true) then true else decide (j<0)) rfl,dF λh=>by have:=(f.1 h);omega]
  ·rw [dF l,gdT (g:=(bif false then true else false)==false&&true) rfl,ckb (by omega)]
   by_cases p:j<i-g
   ·rw [dT p,At (c:=bif (bif false then true else false) then true else true) rfl,dF λh=>by have:=(f.1 h);omega]
   ·rw [dF p,Ag (c:=bif (bif false then true else false) then true else false) rfl,show IntKind.i64.wrap (0-r)=-r from A1y (by omega)];obtain ⟨c,c1,c2⟩:=go F (-r) (by omega) (by omega) (by omega);rw [c1]
    congr 1
    rw [Bool.eq_iff_iff,c2,decide_eq_true_iff];constructor
    ·rintro ⟨e,e1,e2,e3⟩;exact f.2 ⟨q.2 hs,ho.1,ho.2,by omega,by omega,e,e1,e2,e3⟩
    ·intro h;obtain ⟨-,-,-,-,-,e,e1,e2,e3⟩:=f.1 h;exact ⟨e,e1,e2,e3⟩
def Ec {α:Type} (R m:Nat) (f:Int->α):List (List α):=(List.range R).map λa=>(List.range m).map λi=>f ((a*m+i:Nat):Int)
theorem We (R m:Nat) (f:Int->α):(Ec R m f).length=R:=by simp [Ec]
theorem Qe {f:Int->α} (h:a<R):(Ec R m f)[a]? = some ((List.range m).map λi=>f ((a*m+i:Nat):Int)):=by simp [Ec,h]
theorem A3p {f:Int->α} (h:i<m):((List.range m).map λi=>f ((a*m+i:Nat):Int))[i]? = some (f ((a*m+i:Nat):Int)):=by simp [h]
def cP (N:List Int) (q:Int->Bool) (n:Nat):Nat:=(List.range n).countP λo:Nat=>q (o:Int)&&decide ((o:Int)∈N)
theorem A36 (N:List Int) (q:Int->Bool) (n:Nat):cP N q (n+1)=cP N q n+if (q (n:Int)&&decide ((n:Int)∈N))=true then 1 else 0:=by
 unfold cP;rw [List.range_succ,List.countP_append,List.countP_cons,List.countP_nil,Nat.zero_add]
theorem A8k (N:List Int) (q:Int->Bool) (n:Nat):cP N q n<=n:=by
 have:=List.countP_le_length (p:=λo:Nat=>q (o:Int)&&decide ((o:Int)∈N)) (l:=List.range n);rw [List.length_range] at this;exact this
theorem A5c {N:List Int} {q:Int->Bool} (hn:N.Nodup) (b:∀o∈N,0<=o/\o<(n:Int)):cP N q n=N.countP q:=by
 have c:(((List.range n).map λo:Nat=>(o:Int)).filter λo=>decide (o∈N)).Perm N:=by
  refine (List.perm_ext_iff_of_nodup ?_ hn).2 λo=>?_
  ·rw [List.nodup_iff_pairwise_ne];refine List.Pairwise.filter _ ?_;rw [List.pairwise_map];exact (List.nodup_iff_pairwise_ne.1 List.nodup_range).imp λh=>by omega
  ·rw [List.mem_filter,List.mem_map,decide_eq_true_iff];constructor
   ·exact λh=>h.2
   ·intro h;obtain ⟨d,e⟩:=b o h;exact ⟨⟨o.toNat,List.mem_range.2 (by omega),by omega⟩,h⟩
 rw [←c.countP_eq,List.countP_filter,List.countP_map];rfl
section
variable {a i:Int}
theorem A0m (hR:4<=R/\R<=500) (hm:1<=m/\m<=1000) (b0:R*m<=1000) (s:0<=a/\a<R) (hi:0<=i/\i<m) (y:0<=r/\r<=3) (t:0<=g/\g<=3) (hF:2000<=F) :
  M7 F (Ec R m f) a i r g=some ((((nbs R m (a*m+i) r g).countP λo=>f o==1:Nat):Int),(((nbs R m (a*m+i) r g).countP λo=>f o != 3:Nat):Int),(((nbs R m (a*m+i) r g).length:Nat):Int)):=by
 have hk:=Zy s.1 s.2 hi.1 hi.2;have l:∀o∈nbs R m (a*m+i) r g,0<=o/\o<((R*m:Nat):Int):=λo ho=>by
  have:=(A0l (by omega) (by omega) hk y.1 t.1).1 ho;rw [Int.natCast_mul];exact ⟨this.2.1,this.2.2.1⟩
 have p:=A7w (R:=(R:Int)) (m:=(m:Int)) (k:=a*m+i) (r:=r) (g:=g) (by omega) (by omega) t.1;generalize u:nbs R m (a*m+i) r g=N at *;have l4:∀(b:Nat) (hb:b<R) (k2:Int->Int->Int->Int->Option (Int×Int×Int)) (n j:Nat),m+1<=n+j->j<=m ->
   Kt F (Ec R m f) a i r g b k2 n (cP N (λo=>f o==1) (b*m+j)) (cP N (λo=>f o != 3) (b*m+j)) (cP N (λ_=>true) (b*m+j)) j =
    k2 (cP N (λo=>f o==1) (b*m+m)) (cP N (λo=>f o != 3) (b*m+m)) (cP N (λ_=>true) (b*m+m)) ((b:Int)+1):=by
  intro b hb k2 n;have b2:b*m+m<=R*m:=by
   have:=Nat.mul_le_mul_right m (show b+1<=R by omega);rw [Nat.add_mul] at this;omega
  induction n with
  | zero=>intro j v x;omega
  | succ n ih =>
   intro j v x;show Kr F (Ec R m f) a i r g b k2 _ _ _ _ j=_;unfold Kr P6;rw [C5 b _ rfl (Qe hb),List.length_map,List.length_range]
   by_cases hj:j<m
   ·have e:=B09 (R:=R) (m:=m) ⟨hR.1,by omega⟩ hm s hi (b:=(b:Int)) (j:=(j:Int)) ⟨by omega,by omega⟩ ⟨by omega,by omega⟩ y t (F:=F) (by omega);rw [u,show (b:Int)*m+j=((b*m+j:Nat):Int) by rw [Int.natCast_add,Int.natCast_mul]] at e;have c1:=A8k N (λo=>f o==1) (b*m+j);have c2:=A8k N (λo=>f o != 3) (b*m+j);have c3:=A8k N (λ_=>true) (b*m+j);have s1:=A36 N (λo=>f o==1) (b*m+j);have s2:=A36 N (λo=>f o != 3) (b*m+j);have s3:=A36 N (λ_=>true) (b*m+j);have ih':=ih (j+1) (by omega) (by omega);rw [←Nat.add_assoc,show ((j+1:Nat):Int)=(j:Int)+1 by omega] at ih';rw [At (dT (by omega)),We,e,sbd]
    by_cases d:((b*m+j:Nat):Int)∈N
    ·simp only [d,decide_true,Bool.and_true,if_true] at s1 s2 s3;rw [dT d,Ag (c:=!true) rfl,ckb (by omega),C5 b _ rfl (Qe hb),C5 j _ rfl (A3p hj)];unfold Ks Fw
     by_cases e1:f ((b*m+j:Nat):Int)=1
     ·rw [if_pos (eqT e1)] at s1;rw [if_pos (neT (by omega))] at s2;rw [At (eqT e1),ckb (by omega),C5 b _ rfl (Qe hb),C5 j _ rfl (A3p hj),At (neT (by omega)),ckb (by omega),ckb (by omega)];rw [s1,s2,s3] at ih';exact ih'
     ·rw [if_neg (by rw [eqF e1];simp)] at s1;rw [Ag (eqF e1),C5 b _ rfl (Qe hb),C5 j _ rfl (A3p hj)]
      by_cases e3:f ((b*m+j:Nat):Int)=3
      ·rw [if_neg (by rw [neF e3];simp)] at s2;rw [Ag (neF e3),ckb (by omega)];rw [s1,s2,s3] at ih';exact ih'
      ·rw [if_pos (neT e3)] at s2;rw [At (neT e3),ckb (by omega),ckb (by omega)];rw [s1,s2,s3] at ih';exact ih'
    ·simp only [d,decide_false,Bool.and_false,Bool.false_eq_true,if_false,Nat.add_zero] at s1 s2 s3;rw [dF d,At (c:=!false) rfl];unfold Fw;rw [ckb (by omega)];rw [s1,s2,s3] at ih';exact ih'
   ·rw [Ag (dF (by omega)),ckb (by omega),show j=m by omega]
 have l2:∀(n b:Nat),R+1<=n+b->b<=R->Hj F (Ec R m f) a i r g n (cP N (λo=>f o==1) (b*m)) (cP N (λo=>f o != 3) (b*m)) (cP N (λ_=>true) (b*m)) b=some (((cP N (λo=>f o==1) (R*m):Nat):Int),((cP N (λo=>f o != 3) (R*m):Nat):Int),((cP N (λ_=>true) (R*m):Nat):Int)):=by
  intro n
  induction n with
  | zero=>intro b v x;omega
  | succ n ih =>
   intro b v x;show Kq F (Ec R m f) a i r g _ _ _ _ b=_;unfold Kq P5;rw [We]
   by_cases hb:b<R
   ·have:=l4 b hb (Hj F (Ec R m f) a i r g n) F 0 (by omega) (by omega);rw [At (dT (by omega))];rw [Nat.add_zero] at this;refine Eq.trans this ?_;have:=ih (b+1) (by omega) (by omega);rw [Nat.add_mul,Nat.one_mul] at this;exact this
   ·rw [Ag (dF (by omega)),show b=R by omega]
 have:=l2 F 0 (by omega) (by omega);rw [Nat.zero_mul] at this;unfold M7;have z:∀q,cP N q 0=0:=λq=>rfl;rw [z,z,z] at this;refine Eq.trans this ?_;rw [A5c p l,A5c p l,A5c p l,List.countP_true]
end
theorem A5v (c:∀o∈l,1<=f o/\f o<=3) :
  Vw 6 l f=(if 0<l.countP (λo=>f o==1) then 1 else if l.countP (λo=>f o != 3)=0 then 3 else 2) /\
  Vw 7 l f=(if l.countP (λo=>f o==1)=l.length then 1 else if l.countP (λo=>f o != 3)<l.length then 3 else 2):=by
 have key:∀(l:List Int),(∀o∈l,1<=f o/\f o<=3)->∀x:Int,1<=x->x<=3 ->
   l.foldl (λa o=>mn a (f o)) x=(if x=1\/0<l.countP (λo=>f o==1) then 1 else if x=3/\l.countP (λo=>f o != 3)=0 then 3 else 2) /\
   l.foldl (λa o=>mx a (f o)) x=(if x=1/\l.countP (λo=>f o==1)=l.length then 1 else if x=3\/l.countP (λo=>f o != 3)<l.length then 3 else 2):=by
  intro l
  induction l with
  | nil =>
   intro _ x g i;simp only [List.foldl_nil,List.countP_nil,List.length_nil];constructor
   ·by_cases e1:x=1
    ·simp [e1]
    ·by_cases e3:x=3
     ·simp [e3]
     ·simp [e1,e3];omega
   ·by_cases e1:x=1
    ·simp [e1]
    ·by_cases e3:x=3
     ·simp [e3]
     ·simp [e1,e3];omega
  | cons o l ih =>
   intro d x g i;obtain ⟨o1,o2⟩:=d o (by simp);have b:∀p∈l,1<=f p/\f p<=3:=λp j=>d p (by simp [j]);have b1:1<=mn x (f o)/\mn x (f o)<=3:=by unfold mn;split<;>omega
   have b2:1<=mx x (f o)/\mx x (f o)<=3:=by unfold mx;split<;>omega
   obtain ⟨i1,-⟩:=ih b (mn x (f o)) b1.1 b1.2;obtain ⟨-,i2⟩:=ih b (mx x (f o)) b2.1 b2.2;have c1:=List.countP_le_length (p:=λo=>f o==1) (l:=l);have c2:=List.countP_le_length (p:=λo=>f o != 3) (l:=l);rw [List.foldl_cons,List.foldl_cons,i1,i2,List.countP_cons,List.countP_cons,List.length_cons];generalize l.countP (λo=>f o==1)=A at *;generalize l.countP (λo=>f o != 3)=B at *;have d1:(if (f o==1)=true then 1 else 0)=if f o=1 then 1 else 0:=by by_cases e:f o=1<;>simp [e]
   have d2:(if (f o != 3)=true then 1 else 0)=if f o=3 then 0 else 1:=by by_cases e:f o=3<;>simp [e]
   rw [d1,d2];unfold mn mx;constructor
   ·repeat' split
    all_goals omega
   ·repeat' split
    all_goals omega
 unfold Vw;obtain ⟨k1,-⟩:=key l c 3 (by omega) (by omega);obtain ⟨-,k2⟩:=key l c 1 (by omega) (by omega);constructor
 ·rw [if_pos rfl,k1];simp
 ·rw [if_neg (by omega),k2];simp
def rv (x:zE):zK:=⟨x.span,x.has⟩
theorem A9l {p q:Prop} [Decidable p] [Decidable q] {n s:Bool} (hs:s=true↔p) (hn:¬p->(n=true↔¬q)):Gf n s=some (tri p q):=by
 unfold Gf tri
 by_cases b:p
 ·rw [At (hs.2 b),if_pos b]
 ·rw [Ag (by cases s<;>simp_all),if_neg b]
  by_cases c:q
  ·rw [Ag (by have:=hn b;cases n<;>simp_all),if_pos c]
  ·rw [At ((hn b).2 c),if_neg c]
def LeV (x:zE):Prop:=x.span.Lo<=x.span.Hi
theorem B17 {x y:zE} (i:LeV x) (j:LeV y) {op:Int} (f:8<=op/\op<=13) (hF:5<=F):Cx F op (rv x) (rv y)=some (Zo op x y):=by
 obtain ⟨F,rfl⟩:∃G,F=G+2:=⟨F-2,by omega⟩;unfold LeV at i j;show Fv (F+1) (Cx (F+1)) op (rv x) (rv y)=_;unfold Fv Zo
 by_cases g:x.has=false\/y.has=false
 ·rw [if_pos g,At (by
    unfold rv;rcases g with h|h<;>rw [h];· rfl
    ·cases x.has<;>rfl)]
 ·have d:x.has=true:=by cases h:x.has<;>simp_all
  have e:y.has=true:=by cases h:y.has<;>simp_all
  have e1:(rv x).Has=true:=d;have e2:(rv y).Has=true:=e;have lt:∀u v:zE,C3 8 (rv u) (rv v) (decide ((rv u).Span.Lo>=(rv v).Span.Hi)) (decide ((rv u).Span.Hi<(rv v).Span.Lo))=some (tri (u.span.Hi<v.span.Lo) (u.span.Lo<v.span.Hi)):=by
   intro u v;unfold C3;rw [Ag (eqF (by decide))];exact A9l decide_eq_true_iff λ_=>by rw [decide_eq_true_iff];unfold rv;dsimp only;omega
  have le:∀u v:zE,C3 9 (rv u) (rv v) (decide ((rv u).Span.Lo>(rv v).Span.Hi)) (decide ((rv u).Span.Hi<=(rv v).Span.Lo))=some (tri (u.span.Hi<=v.span.Lo) (u.span.Lo<=v.span.Hi)):=by
   intro u v;unfold C3;rw [Ag (eqF (by decide))];exact A9l decide_eq_true_iff λ_=>by rw [decide_eq_true_iff];unfold rv;dsimp only;omega
  have eq:∀(c1 c2:Bool),C3 12 (rv x) (rv y) c1 c2=some (tri (mx x.span.Hi y.span.Hi=mn x.span.Lo y.span.Lo) (x.span.Lo<=y.span.Hi/\y.span.Lo<=x.span.Hi)):=by
   intro c1 c2;unfold C3;rw [At (eqT rfl)];refine A9l ?_ λ_=>?_
   ·unfold rv mx mn;dsimp only;constructor
    ·intro h;have:x.span.Lo=x.span.Hi/\x.span.Lo=y.span.Lo/\x.span.Hi=y.span.Hi:=by simpa [cond_eq_ite] using h
     split<;>split<;>omega
    ·intro h;have:x.span.Lo=x.span.Hi/\x.span.Lo=y.span.Lo/\x.span.Hi=y.span.Hi:=by
      split at h<;>split at h<;>omega
     simp [cond_eq_ite,this];omega
   ·unfold rv;dsimp only;rw [orB];omega
  rw [if_neg g,e1,e2,Ag (c:=bif !true then true else !true) rfl];have nx:∀o u v,u.has=true->v.has=true->Cx (F+1) o (rv u) (rv v)=bif (o==10) then ((Cx F 8 (rv v) (rv u)).bind λy17=>some y17) else (bif (o==11) then ((Cx F 9 (rv v) (rv u)).bind λy18=>some y18) else (bif (o==13) then ((Cx F 12 (rv u) (rv v)).bind λy19=>(J4 F y19).bind λy20=>some y20) else (bif (o==9) then (C3 o (rv u) (rv v) (decide ((rv u).Span.Lo>(rv v).Span.Hi)) (decide ((rv u).Span.Hi<=(rv v).Span.Lo))) else (C3 o (rv u) (rv v) (decide ((rv u).Span.Lo>=(rv v).Span.Hi)) (decide ((rv u).Span.Hi<(rv v).Span.Lo)))))):=by
   intro o u v k hv;show Fv F (Cx F) o (rv u) (rv v)=_;unfold Fv;rw [show (rv u).Has=true from k,show (rv v).Has=true from hv,Ag (c:=bif !true then true else !true) rfl]
  rcases B3d f with rfl|rfl|rfl|rfl|rfl|rfl
  ·rw [Ag (eqF (by decide)),Ag (eqF (by decide)),Ag (eqF (by decide)),Ag (eqF (by decide)),if_neg (by decide),lt,A6d (.inl rfl)]
  ·rw [Ag (eqF (by decide)),Ag (eqF (by decide)),Ag (eqF (by decide)),At (eqT rfl),if_neg (by decide),le,A6e (.inl rfl)]
  ·rw [At (eqT rfl),nx 8 y x e d,Ag (eqF (by decide)),Ag (eqF (by decide)),Ag (eqF (by decide)),Ag (eqF (by decide)),if_pos (by decide),lt,sbd,A6d (.inr rfl)]
  ·rw [Ag (eqF (by decide)),At (eqT rfl),nx 9 y x e d,Ag (eqF (by decide)),Ag (eqF (by decide)),Ag (eqF (by decide)),At (eqT rfl),if_pos (by decide),le,sbd,A6e (.inr rfl)]
  ·rw [Ag (eqF (by decide)),Ag (eqF (by decide)),Ag (eqF (by decide)),Ag (eqF (by decide)),if_neg (by decide),eq,A8s]
  ·rw [Ag (eqF (by decide)),Ag (eqF (by decide)),At (eqT rfl),nx 12 x y d e,Ag (eqF (by decide)),Ag (eqF (by decide)),Ag (eqF (by decide)),Ag (eqF (by decide)),if_neg (by decide),eq,sbd];unfold J4;have ht:=A3w (a:=mx x.span.Hi y.span.Hi=mn x.span.Lo y.span.Lo) (b:=x.span.Lo<=y.span.Hi/\y.span.Lo<=x.span.Hi);rw [ckb (by omega),sbd,A8t]
   congr 1
   unfold tri mx mn
   repeat' split
   all_goals omega
structure VSw (s:zF) (R m:Nat):Prop where
 sw:Swp s R m
 kind:∀k:Int,0<=k->k<(R*m:Nat)->(rowS s k).Kind=1\/(rowS s k).Kind=2\/(rowS s k).Kind=3
 ord:∀k:Int,0<=k->k<(R*m:Nat)->RE (rowS s k) (rowS s k)
section
theorem VSw.rs (h:VSw s R m):RS s s R m:=⟨h.sw,h.sw,rfl,h.ord⟩
theorem VSw.le (h:VSw s R m) (ht:okT false t) (b:0<=k/\k<(R*m:Nat)):LeV (t.sem s k).2:=by
 rcases (B0f h.rs t k b).2 ht with ⟨e,-⟩|⟨-,-,d,c,f⟩
 ·rw [e];unfold LeV noV;exact Int.le_refl _
 ·exact c
theorem B4r (h:Swp s R m) (e:a<R) (hi:i<m):∃row,getI s.Rays (a:Int)=some row/\row.length=m/\getI row (i:Int)=some (rowS s ((a*m+i:Nat):Int)):=by
 have d:(0:Int)<=((a*m+i:Nat):Int)/\((a*m+i:Nat):Int)<((R*m:Nat):Int):=by
  have:=Nat.mul_le_mul_right m (show a+1<=R by omega);rw [Nat.add_mul] at this;omega
 obtain ⟨row,b,c,-⟩:=A11 h d;have e1:((a*m+i:Nat):Int)/(m:Int)=a:=by rw [Int.natCast_add,Int.natCast_mul];exact Y9 (by omega) (by omega)
 have e2:((a*m+i:Nat):Int)%(m:Int)=i:=by rw [Int.natCast_add,Int.natCast_mul];exact Ya (by omega) (by omega)
 rw [e1,Int.toNat_natCast] at b;rw [e2,Int.toNat_natCast] at c;refine ⟨row,?_,h.rows row (List.mem_of_getElem? b),?_⟩
 ·unfold getI;rw [if_pos (by omega),Int.toNat_natCast,b]
 ·unfold getI;rw [if_pos (by omega),Int.toNat_natCast,c]
theorem A84 (h:VSw s R m) (d:a<R) (hi:i<m) {op:Int} (f:14<=op/\op<=24) (F:Nat):S9 F ⟨op,v,0,0,[]⟩ s a i=some (rv (T3 s op v ((a*m+i:Nat):Int))):=by
 obtain ⟨row,g1,g,g2⟩:=B4r h.sw d hi;have c:(0:Int)<=((a*m+i:Nat):Int)/\((a*m+i:Nat):Int)<((R*m:Nat):Int):=by
  have:=Nat.mul_le_mul_right m (show a+1<=R by omega);rw [Nat.add_mul] at this;omega
 have e1:((a*m+i:Nat):Int)/(m:Int)=a:=by rw [Int.natCast_add,Int.natCast_mul];exact Y9 (by omega) (by omega)
 have e2:((a*m+i:Nat):Int)%(m:Int)=i:=by rw [Int.natCast_add,Int.natCast_mul];exact Ya (by omega) (by omega)
 have b:=h.kind _ c.1 c.2;unfold S9 Sv T3;rw [g1,sbd,g2,sbd,h.sw.hm,e1,e2];dsimp only;generalize rowS s ((a*m+i:Nat):Int)=e at *;unfold F3 rv pt noV;have key:op=14\/op=15\/op=16\/op=17\/op=18\/op=19\/op=20\/op=21\/op=22\/op=23\/op=24:=by omega
 rcases key with rfl|rfl|rfl|rfl|rfl|rfl|rfl|rfl|rfl|rfl|rfl<;>rcases b with b|b|b<;>simp [b,g2]
theorem A3v {p0:zG} (h:Swp s R m) (hF:2000<=F) {L1:List (List (List Int))} {L2:List (List (List zK))} 
  (b:∀(a i:Nat),a<R->i<m->∀st k3 k6 l,D1 F p0 s L1 L2 st a k3 k6 l i=C2 l i k6 (f ((a*m+i:Nat):Int))):P2 F p0 s L1 L2=some (Ec R m f):=by
 have k:=h.N1;have hR:=h.R4;have hm:=h.m1;have l6:∀(a:Nat),a<R->∀st k3 (n i:Nat),m+1<=n+i->i<=m->Hh F p0 s L1 L2 st a k3 n ((List.range i).map λi=>f ((a*m+i:Nat):Int)) i=Ko st a k3 ((List.range m).map λi=>f ((a*m+i:Nat):Int)):=by
  intro a c st k3 n
  induction n with
  | zero=>intro i d g;omega
  | succ n ih =>
   intro i d g;show D1 F p0 s L1 L2 st a k3 _ _ i=_
   by_cases hi:i<m
   ·rw [b a i c hi];unfold C2;rw [show apd 8 ((List.range i).map λi=>f ((a*m+i:Nat):Int)) [f ((a*m+i:Nat):Int)]=some ((List.range (i+1)).map λi=>f ((a*m+i:Nat):Int)) by
     unfold apd;rw [if_pos (by simp;omega),List.range_succ,List.map_append];rfl,sbd,ckb (by omega)]
    exact ih (i+1) (by omega) (by omega)
   ·have e:i=m:=by omega
    subst e;have j:a<s.Rays.length:=by rw [h.hR];exact c
    unfold D1;rw [C5 a _ rfl (List.getElem?_eq_getElem j),h.rows _ (List.getElem_mem j),Ag (dF (by omega))]
 have l3:∀(n a:Nat),R+1<=n+a->a<=R->Hg F p0 s L1 L2 n (Ec a m f) a=some (Ec R m f):=by
  intro n
  induction n with
  | zero=>intro a d g;omega
  | succ n ih =>
   intro a d g;show Kn F p0 s L1 L2 _ _ a=_;unfold Kn P3;rw [h.hR]
   by_cases c:a<R
   ·rw [At (dT (by omega)),show Hh F p0 s L1 L2 (Ec a m f) a (Hg F p0 s L1 L2 n) F [] 0=_ from l6 a c _ _ F 0 (by omega) (by omega)];unfold Ko P4;rw [show apd 24 (Ec a m f) [(List.range m).map λi=>f ((a*m+i:Nat):Int)]=some (Ec (a+1) m f) by
     unfold apd Ec;rw [if_pos (by simp;omega),List.range_succ,List.map_append];rfl,sbd,ckb (by omega)]
    exact ih (a+1) (by omega) (by omega)
   ·rw [Ag (dF (by omega)),show a=R by omega]
 exact l3 F 0 (by omega) (by omega)
theorem A69 {p0:zG} (h:Swp s R m) (hF:2000<=F) {L1:List (List Int)} {L2:List (List (List zK))} {f:Int->zK}
  (b:∀(a i:Nat),a<R->i<m->∀st k3 k6 l,Db F p0 s L1 L2 st a k3 k6 l i=Dc l i k6 (f ((a*m+i:Nat):Int)).Span.Lo (f ((a*m+i:Nat):Int)).Span.Hi (f ((a*m+i:Nat):Int)).Has):Mn F p0 s L1 L2=some (Ec R m f):=by
 have k:=h.N1;have hR:=h.R4;have hm:=h.m1;have l6:∀(a:Nat),a<R->∀st k3 (n i:Nat),m+1<=n+i->i<=m->Ge F p0 s L1 L2 st a k3 n ((List.range i).map λi=>f ((a*m+i:Nat):Int)) i=Ji st a k3 ((List.range m).map λi=>f ((a*m+i:Nat):Int)):=by
  intro a c st k3 n
  induction n with
  | zero=>intro i d g;omega
  | succ n ih =>
   intro i d g;show Db F p0 s L1 L2 st a k3 _ _ i=_
   by_cases hi:i<m
   ·rw [b a i c hi];unfold Dc;rw [show apd 24 ((List.range i).map λi=>f ((a*m+i:Nat):Int)) [(⟨⟨(f ((a*m+i:Nat):Int)).Span.Lo,(f ((a*m+i:Nat):Int)).Span.Hi⟩,(f ((a*m+i:Nat):Int)).Has⟩:zK)]=some ((List.range (i+1)).map λi=>f ((a*m+i:Nat):Int)) by
     unfold apd;rw [if_pos (by simp;omega),List.range_succ,List.map_append];rfl,sbd,ckb (by omega)]
    exact ih (i+1) (by omega) (by omega)
   ·have e:i=m:=by omega
    subst e;have j:a<s.Rays.length:=by rw [h.hR];exact c
    unfold Db;rw [C5 a _ rfl (List.getElem?_eq_getElem j),h.rows _ (List.getElem_mem j),Ag (dF (by omega))]
 have l3:∀(n a:Nat),R+1<=n+a->a<=R->Gd F p0 s L1 L2 n (Ec a m f) a=some (Ec R m f):=by
  intro n
  induction n with
  | zero=>intro a d g;omega
  | succ n ih =>
   intro a d g;show Jh F p0 s L1 L2 _ _ a=_;unfold Jh Mp;rw [h.hR]
   by_cases c:a<R
   ·rw [At (dT (by omega)),show Ge F p0 s L1 L2 (Ec a m f) a (Gd F p0 s L1 L2 n) F [] 0=_ from l6 a c _ _ F 0 (by omega) (by omega)];unfold Ji Mq;rw [show apd 24 (Ec a m f) [(List.range m).map λi=>f ((a*m+i:Nat):Int)]=some (Ec (a+1) m f) by
     unfold apd Ec;rw [if_pos (by simp;omega),List.range_succ,List.map_append];rfl,sbd,ckb (by omega)]
    exact ih (a+1) (by omega) (by omega)
   ·rw [Ag (dF (by omega)),show a=R by omega]
 exact l3 F 0 (by omega) (by omega)
end
theorem A59 {l:List α} {x:α} (h:l.length<=100):apd 24 l [x]=some (l++[x]):=by unfold apd;rw [if_pos (by simp;omega)]
theorem gg {f:Int->α} (b:a<R) (hi:i<m) {k:α->Option β}:((getI (Ec R m f) (a:Int)).bind λu=>(getI u (i:Int)).bind k)=k (f ((a*m+i:Nat):Int)):=by
 rw [C5 a _ rfl (Qe b),C5 i _ rfl (A3p hi)]
section
theorem B3q (b:a<R) (hi:i<m):(0:Int)<=((a*m+i:Nat):Int)/\((a*m+i:Nat):Int)<((R*m:Nat):Int):=by
 have:=Nat.mul_le_mul_right m (show a+1<=R by omega);rw [Nat.add_mul] at this;omega
theorem Xz (h:Swp s R m) (b:a<R) (hi:i<m) {X Y:Option α}:((getI s.Rays (a:Int)).bind λu=>bif (decide ((i:Int)<(u.length:Int))) then X else Y)=X:=by
 obtain ⟨row,g1,c,-⟩:=B4r h b hi;rw [g1,sbd,At (dT (by omega))]
theorem B0s (h:VSw s R m):∀(t:T) (F:Nat),t.size<=100000->t.size+3000<=F ->
  (okT true t->D6 F t.rnode s=some (Ec R m λk=>(t.sem s k).1))/\(okT false t->C1 F t.rnode s=some (Ec R m λk=>rv (t.sem s k).2)):=by
 have hN:=h.sw.N1;have hR:=h.sw.R4;have hm:=h.sw.m1;have e1:(s.Rays.length:Int)=R:=by rw [h.sw.hR]
 have e2:s.Site.Gates=(m:Int):=h.sw.hm;have ek:∀a i:Nat,((a:Int)*m+i)=((a*m+i:Nat):Int):=λa i=>by rw [Int.natCast_add,Int.natCast_mul]
 intro t
 induction t with
 | leaf op v =>
  intro F hs hF;obtain ⟨F,rfl⟩:∃G,F=G+2:=⟨F-2,by omega⟩;constructor
  ·intro ho;simp only [okT] at ho;show B3 (F+1) (D6 (F+1)) (C1 (F+1)) ⟨op,v,0,0,[]⟩ s (Kp (F+1) (D6 (F+1)) (C1 (F+1)) ⟨op,v,0,0,[]⟩ s F) [] [] 0=_;unfold B3;rw [Ag (dF (by simp))];refine A3v h.sw (by omega) λa i b hi st k3 k6 l=>?_;unfold D1;rw [Xz h.sw b hi];dsimp only [T.sem];rcases ho.1 with rfl|rfl
   ·rw [At (eqT rfl),if_pos rfl]
   ·rw [Ag (eqF (by decide)),Ag (eqF (by decide)),Ag (eqF (by decide)),Ag (eqF (by decide)),Ag (A3j (eqF (by decide)) (eqF (by decide))),Ag (dF (by decide)),if_neg (by decide)]
  ·intro ho;simp only [okT] at ho;show F1 (F+1) (D6 (F+1)) (C1 (F+1)) ⟨op,v,0,0,[]⟩ s=_;unfold F1 F2;rw [Ag (eqF (by dsimp only;omega))];show Bx (F+1) (C1 (F+1)) ⟨op,v,0,0,[]⟩ s [] (Jj (F+1) (C1 (F+1)) ⟨op,v,0,0,[]⟩ s [] F) [] 0=_;unfold Bx;rw [Ag (by rw [dF (show ¬(0:Int)<((([]:List zG).length:Nat):Int) by simp)];rfl)];refine A69 h.sw (by omega) λa i b hi st k3 k6 l=>?_;unfold Db;rw [Xz h.sw b hi,Ag (eqF (by dsimp only;omega)),Ag (dF (by dsimp only;omega)),A84 h b hi (by omega),sbd];rfl
 | un op r g x ih =>
  intro F hs hF;simp only [T.size] at hs hF;obtain ⟨F,rfl⟩:∃G,F=G+3:=⟨F-3,by omega⟩;have ihx:=ih (F+2) (by omega) (by omega);constructor
  ·intro ho;simp only [okT] at ho;have i1:=ihx.1 ho.2;have j:=A6w s x ho.2;show B3 (F+2) (D6 (F+2)) (C1 (F+2)) ⟨op,0,r,g,[x.rnode]⟩ s _ [] [] 0=_;unfold B3;rw [At (dT (by simp)),Ag (dF (by dsimp only;omega)),Tr,i1,sbd,A59 (by simp),sbd];unfold Do;rw [ckb (by omega)];show B3 (F+2) (D6 (F+2)) (C1 (F+2)) ⟨op,0,r,g,[x.rnode]⟩ s _ ([]++[_]) [] (0+1)=_;unfold B3;rw [Ag (dF (by simp)),List.nil_append];refine A3v h.sw (by omega) λa i b hi st k3 k6 l=>?_;have e:=B3q (R:=R) b hi;unfold D1;rw [Xz h.sw b hi];dsimp only [T.sem];rcases ho.1 with ⟨rfl,-,-⟩|⟨d,r1,r2,g1,g2⟩
   ·have:=j ((a*m+i:Nat):Int);rw [Ag (eqF (by decide)),At (eqT rfl),Tr,gg b hi];unfold J4;rw [ckb (by omega),sbd,if_pos rfl]
   ·have n:=A0m (R:=R) (m:=m) (f:=λk=>(x.sem s k).1) (a:=(a:Int)) (i:=(i:Int)) hR hm hN ⟨by omega,by omega⟩ ⟨by omega,by omega⟩ ⟨r1,r2⟩ ⟨g1,g2⟩ (F:=F+2) (by omega);rw [ek a i] at n;obtain ⟨n6,n7⟩:=A5v (l:=nbs R m ((a*m+i:Nat):Int) r g) (f:=λk=>(x.sem s k).1) (λo _=>j o);have b1:=List.countP_le_length (p:=λo=>(x.sem s o).1 != 3) (l:=nbs R m ((a*m+i:Nat):Int) r g);rw [Ag (eqF (by omega)),Ag (eqF (by omega)),Ag (eqF (by omega)),Ag (eqF (by omega)),At (by rcases d with h|h<;>rw [h]<;>rfl),Tr,n,sbd,if_neg (show op≠3 by omega),e1,e2]
    dsimp only at n6 n7 ⊢;generalize (nbs R m ((a*m+i:Nat):Int) r g).countP (λo=>(x.sem s o).1==1)=A at *;generalize (nbs R m ((a*m+i:Nat):Int) r g).countP (λo=>(x.sem s o).1 != 3)=B at *;generalize (nbs R m ((a*m+i:Nat):Int) r g).length=C at *;rcases d with rfl|rfl
    ·rw [n6]
     by_cases c1:0<A
     ·rw [if_pos c1,At (by rw [dT (show (A:Int)>0 by omega)];rfl)]
     ·rw [if_neg c1,Ag (by rw [dF (show ¬(A:Int)>0 by omega)];rfl)]
      by_cases c2:B=0
      ·rw [if_pos c2,At (by rw [eqT (show (B:Int)=0 by omega)];rfl)]
      ·rw [if_neg c2,Ag (by rw [eqF (show (B:Int)≠0 by omega)];rfl)]
    ·rw [n7]
     by_cases c1:A=C
     ·rw [if_pos c1,At (by rw [eqT (show (A:Int)=C by omega)];rfl)]
     ·rw [if_neg c1,Ag (by rw [eqF (show (A:Int)≠C by omega)];rfl)]
      by_cases c2:B<C
      ·rw [if_pos c2,At (by rw [dT (show (B:Int)<C by omega)];rfl)]
      ·rw [if_neg c2,Ag (by rw [dF (show ¬(B:Int)<C by omega)];rfl)]
  ·intro ho;simp only [okT] at ho;obtain ⟨⟨rfl,r1,r2,g1,g2⟩,q⟩:=ho;have i1:=ihx.1 q;show F1 (F+2) (D6 (F+2)) (C1 (F+2)) ⟨25,0,r,g,[x.rnode]⟩ s=_;unfold F1 F2;rw [At (eqT rfl),Tr,i1,sbd];show Bx (F+2) (C1 (F+2)) ⟨25,0,r,g,[x.rnode]⟩ s _ _ [] 0=_;unfold Bx;rw [Ag (by rw [dF (show ¬(25:Int)>=26 by decide)];cases decide ((0:Int)<((([x.rnode]:List zG).length:Nat):Int))<;>rfl)]
   refine A69 h.sw (by omega) λa i b hi st k3 k6 l=>?_;have n:=A0m (R:=R) (m:=m) (f:=λk=>(x.sem s k).1) (a:=(a:Int)) (i:=(i:Int)) hR hm hN ⟨by omega,by omega⟩ ⟨by omega,by omega⟩ ⟨r1,r2⟩ ⟨g1,g2⟩ (F:=F+2) (by omega);rw [ek a i] at n;unfold Db;rw [Xz h.sw b hi,At (eqT rfl),n,sbd];dsimp only [T.sem,rv,U5];rw [e1,e2]
 | bin op x y ihx ihy =>
  intro F hs hF;simp only [T.size] at hs hF;obtain ⟨F,rfl⟩:∃G,F=G+4:=⟨F-4,by omega⟩;have ix:=ihx (F+3) (by omega) (by omega);have iy:=ihy (F+3) (by omega) (by omega);constructor
  ·intro ho;simp only [okT] at ho;show B3 (F+3) (D6 (F+3)) (C1 (F+3)) ⟨op,0,0,0,[x.rnode,y.rnode]⟩ s _ [] [] 0=_;rcases ho with ⟨d,ox,oy⟩|⟨o1,o2,ox,oy⟩
   ·have i1:=ix.1 ox;have i2:=iy.1 oy;unfold B3;rw [At (dT (by simp)),Ag (dF (by dsimp only;omega)),Tr,i1,sbd,A59 (by simp),sbd];unfold Do;rw [ckb (by omega)];show B3 (F+3) (D6 (F+3)) (C1 (F+3)) ⟨op,0,0,0,[x.rnode,y.rnode]⟩ s _ ([]++[_]) [] 1=_;unfold B3;rw [At (dT (by simp)),Ag (dF (by dsimp only;omega)),Zu,i2,sbd,A59 (by simp),sbd];unfold Do;rw [ckb (by omega)];show B3 (F+3) (D6 (F+3)) (C1 (F+3)) ⟨op,0,0,0,[x.rnode,y.rnode]⟩ s _ (([]++[_])++[_]) [] 2=_;unfold B3;rw [Ag (dF (by simp)),List.nil_append,List.cons_append,List.nil_append];refine A3v h.sw (by omega) λa i b hi st k3 k6 l=>?_;unfold D1;rw [Xz h.sw b hi];dsimp only [T.sem];rcases d with rfl|rfl
    ·rw [Ag (eqF (by decide)),Ag (eqF (by decide)),At (eqT rfl),Tr,gg b hi,Zu,gg b hi,if_pos rfl];rfl
    ·rw [Ag (eqF (by decide)),Ag (eqF (by decide)),Ag (eqF (by decide)),At (eqT rfl),Tr,gg b hi,Zu,gg b hi,if_neg (show ¬(5:Int)=4 by decide),if_pos (show (5:Int)=5 from rfl)];rfl
   ·have i1:=ix.2 ox;have i2:=iy.2 oy;unfold B3;rw [At (dT (by simp)),At (dT (by dsimp only;omega)),Tr,i1,sbd,A59 (by simp),sbd];unfold Do;rw [ckb (by omega)];show B3 (F+3) (D6 (F+3)) (C1 (F+3)) ⟨op,0,0,0,[x.rnode,y.rnode]⟩ s _ [] ([]++[_]) 1=_;unfold B3;rw [At (dT (by simp)),At (dT (by dsimp only;omega)),Zu,i2,sbd,A59 (by simp),sbd];unfold Do;rw [ckb (by omega)];show B3 (F+3) (D6 (F+3)) (C1 (F+3)) ⟨op,0,0,0,[x.rnode,y.rnode]⟩ s _ [] (([]++[_])++[_]) 2=_;unfold B3;rw [Ag (dF (by simp)),List.nil_append,List.cons_append,List.nil_append];refine A3v h.sw (by omega) λa i b hi st k3 k6 l=>?_;have e:=B3q (R:=R) b hi;unfold D1;rw [Xz h.sw b hi];dsimp only [T.sem];rw [Ag (eqF (by omega)),Ag (eqF (by omega)),Ag (eqF (by omega)),Ag (eqF (by omega)),Ag (A3j (eqF (by omega)) (eqF (by omega))),At (dT (by omega)),Tr,gg b hi,Zu,gg b hi,B17 (h.le ox e) (h.le oy e) ⟨o1,o2⟩ (by omega),sbd,if_neg (by omega),if_neg (by omega)]
  ·intro ho;simp only [okT] at ho;obtain ⟨d,ox,oy,-⟩:=ho;have i1:=ix.2 ox;have i2:=iy.2 oy;show F1 (F+3) (D6 (F+3)) (C1 (F+3)) ⟨op,0,0,0,[x.rnode,y.rnode]⟩ s=_;unfold F1 F2;rw [Ag (eqF (by dsimp only;omega))];show Bx (F+3) (C1 (F+3)) ⟨op,0,0,0,[x.rnode,y.rnode]⟩ s [] _ [] 0=_;unfold Bx;rw [At (by rw [dT (show (0:Int)<((([x.rnode,y.rnode]:List zG).length:Nat):Int) by simp),dT (show op>=26 by omega)];rfl),Tr,i1,sbd,A59 (by simp),sbd,ckb (by omega)];show Bx (F+3) (C1 (F+3)) ⟨op,0,0,0,[x.rnode,y.rnode]⟩ s [] _ ([]++[_]) 1=_;unfold Bx;rw [At (by rw [dT (show (1:Int)<((([x.rnode,y.rnode]:List zG).length:Nat):Int) by simp),dT (show op>=26 by omega)];rfl),Zu,i2,sbd,A59 (by simp),sbd,ckb (by omega)];show Bx (F+3) (C1 (F+3)) ⟨op,0,0,0,[x.rnode,y.rnode]⟩ s [] _ (([]++[_])++[_]) 2=_;unfold Bx;rw [Ag (by rw [dF (show ¬(2:Int)<((([x.rnode,y.rnode]:List zG).length:Nat):Int) by simp)];rfl),List.nil_append,List.cons_append,List.nil_append];refine A69 h.sw (by omega) λa i b hi st k3 k6 l=>?_;have e:=B3q (R:=R) b hi;obtain ⟨x1,x2,x3,x4⟩:=A3t h.sw x ox _ e;obtain ⟨y1,y2,y3,y4⟩:=A3t h.sw y oy _ e;unfold Db;rw [Xz h.sw b hi,Ag (eqF (by dsimp only;omega)),At (dT (by dsimp only;omega)),Tr,gg b hi,Zu,gg b hi];dsimp only [T.sem];unfold A0v;generalize (x.sem s ((a*m+i:Nat):Int)).2=u at *;generalize (y.sem s ((a*m+i:Nat):Int)).2=v at *
   by_cases z:u.has=false\/v.has=false
   ·have hb:(bif (rv u).Has then (rv v).Has else false)=false:=by
     unfold rv;rcases z with h|h<;>rw [h]
     ·rfl
     ·cases u.has<;>rfl
    rw [if_pos z,hb,Ag (c:=bif false then (op==26) else false) rfl,Ag rfl];rfl
   ·have h1:(rv u).Has=true:=by show u.has=true;cases h:u.has<;>simp_all
    have h2:(rv v).Has=true:=by show v.has=true;cases h:v.has<;>simp_all
    rw [if_neg z,h1,h2];rcases d with rfl|rfl
    ·rw [At (c:=bif (bif true then true else false) then ((26:Int)==26) else false) rfl,ckb (by unfold rv;dsimp only;omega),ckb (by unfold rv;dsimp only;omega),if_neg (by decide)];rfl
    ·rw [Ag (c:=bif (bif true then true else false) then ((27:Int)==26) else false) rfl,At (c:=bif true then true else false) rfl,ckb (by unfold rv;dsimp only;omega),ckb (by unfold rv;dsimp only;omega),if_pos rfl];rfl
end
theorem Yl (F:Nat) (s:zP) (h:Cv F s=some 0):1<=s.Gates/\s.Gates<=200:=by
 unfold Cv at h;rw [Xf,sbd] at h;simp only [D8,Cn] at h;have b:Ap s.Gates 1 200=true:=by
  cases hb:Ap s.Gates 1 200 with
  | true=>rfl
  | false =>
   exfalso;rw [hb] at h;revert h
   cases nameB s.Name<;>cases Ap s.X (-1048576) 1048576<;>cases Ap s.Y (-1048576) 1048576<;>cases Ap s.Z 0 20000<;>cases Ap s.Rose 1 90<;>simp
 unfold Ap at b
 revert b
 cases c:decide (1<=s.Gates)<;>simp at c ⊢
 omega
theorem B1u (F:Nat) (hF:2000<=F) (s:zF) (d:s.Rays.length<=1000) (f:s.Site.Gates<=1000):∀(q N i:Nat),i+q=s.Rays.length->q<N->(∀(j:Nat) r,j<i->s.Rays[j]? = some r->(r.length:Int)=s.Site.Gates) ->
  Dv F s N (i:Int)=some (A0k s.Site.Gates s.Rays (s.Rays.drop i)):=by
 intro q
 induction q with
 | zero =>
  intro N i hi g b;obtain ⟨N,rfl⟩:∃N',N=N'+1:=⟨N-1,by omega⟩;show Dt F s (Dv F s N) (i:Int)=_;unfold Dt K1;rw [Ag (dF (by omega)),List.drop_eq_nil_of_le (by omega)];exact B4b F hF s d (λr c=>by
   obtain ⟨j,hj,e⟩:=List.mem_iff_getElem.1 c;have:=b j r (by omega) (by rw [←e];exact List.getElem?_eq_getElem hj);omega) s.Rays.length F 0 (by omega) (by omega)
 | succ q ih =>
  intro N i hi g b;obtain ⟨N,rfl⟩:∃N',N=N'+1:=⟨N-1,by omega⟩;show Dt F s (Dv F s N) (i:Int)=_;unfold Dt;rw [At (dT (by omega)),A3d [] (by omega),Int.toNat_natCast,X4 (i:=i) (l:=s.Rays) (by omega) []];unfold A0k
  by_cases h:((s.Rays.getD i []).length:Int)=s.Site.Gates
  ·have:=ih N (i+1) (by omega) (by omega) λj r hj c=>by
    by_cases ej:j=i
    ·subst ej;rw [List.getD_eq_getElem?_getD,c] at h;exact h
    ·exact b j r (by omega) c
   rw [Int.natCast_add] at this;rw [Ag (by rw [h];simp),ckb (by omega),if_pos h];exact this
  ·rw [At (by simpa only [bne_iff_ne,ne_eq] using h),if_neg h]
theorem B1w (F:Nat) (hF:2000<=F) (s:zF) (d:s.Rays.length<=1000) (f:s.Site.Gates<=1000):∀(q N i:Nat),i+q=s.Rays.length->q<N->(∀(j:Nat) r,j<i->s.Rays[j]? = some r->(r.length:Int)=s.Site.Gates) ->
  E0 F s N (i:Int)=some (A0k s.Site.Gates s.Rays (s.Rays.drop i)):=by
 intro q
 induction q with
 | zero =>
  intro N i hi g b;obtain ⟨N,rfl⟩:∃N',N=N'+1:=⟨N-1,by omega⟩;show Dy F s (E0 F s N) (i:Int)=_;unfold Dy K3;rw [Ag (dF (by omega)),List.drop_eq_nil_of_le (by omega)];exact B4e F hF s d (λr c=>by
   obtain ⟨j,hj,e⟩:=List.mem_iff_getElem.1 c;have:=b j r (by omega) (by rw [←e];exact List.getElem?_eq_getElem hj);omega) s.Rays.length F 0 (by omega) (by omega)
 | succ q ih =>
  intro N i hi g b;obtain ⟨N,rfl⟩:∃N',N=N'+1:=⟨N-1,by omega⟩;show Dy F s (E0 F s N) (i:Int)=_;unfold Dy;rw [At (dT (by omega)),A3d [] (by omega),Int.toNat_natCast,X4 (i:=i) (l:=s.Rays) (by omega) []];unfold A0k
  by_cases h:((s.Rays.getD i []).length:Int)=s.Site.Gates
  ·have:=ih N (i+1) (by omega) (by omega) λj r hj c=>by
    by_cases ej:j=i
    ·subst ej;rw [List.getD_eq_getElem?_getD,c] at h;exact h
    ·exact b j r (by omega) c
   rw [Int.natCast_add] at this;rw [Ag (by rw [h];simp),ckb (by omega),if_pos h];exact this
  ·rw [At (by simpa only [bne_iff_ne,ne_eq] using h),if_neg h]
theorem A9x (F:Nat) (hF:2000<=F) (s:zF) (d:s.Rays.length<=1000):Dn F s=Un F s:=by
 unfold Dn Un;rw [B36 s B1 B2y];obtain ⟨e,he⟩:=V1 F s.Site;rw [he,sbd,sbd]
 by_cases h0:e=0
 ·have g:=A08 F s.Site (by rw [he,h0]);have f:=Yl F s.Site (by rw [he,h0]);rw [Ag (by simp [h0]),if_neg (by simp [h0])]
  by_cases b:¬(0<=s.Tilt/\s.Tilt<=256/\0<=s.Time/\s.Time<=4294967296)
  ·rw [At (dT b),if_pos b]
  ·rw [Ag (dF b),if_neg b,ckb (by omega)]
   by_cases c:(s.Rays.length:Int)=4*s.Site.Rose
   ·rw [Ag (by simp [c]),if_neg (by simp [c])];exact B1u F hF s d (by omega) s.Rays.length F 0 (by omega) (by omega) (λj r h=>by omega)
   ·rw [At (by simpa using c),if_pos c]
 ·rw [At (by simpa using h0),if_pos h0]
theorem B02 (F:Nat) (hF:2000<=F) (s:zF) (d:s.Rays.length<=1000):Ej F s=Un F s:=by
 unfold Ej Un;rw [B36 s Ao B2y,B0i (by omega)];obtain ⟨e,he⟩:=V1 F s.Site;rw [he,sbd,sbd]
 by_cases h0:e=0
 ·have g:=A08 F s.Site (by rw [he,h0]);have f:=Yl F s.Site (by rw [he,h0]);rw [Ag (by simp [h0]),if_neg (by simp [h0])]
  by_cases b:¬(0<=s.Tilt/\s.Tilt<=256/\0<=s.Time/\s.Time<=4294967296)
  ·rw [At (dT b),if_pos b]
  ·rw [Ag (dF b),if_neg b,ckb (by omega)]
   by_cases c:(s.Rays.length:Int)=4*s.Site.Rose
   ·rw [Ag (by simp [c]),if_neg (by simp [c])];exact B1w F hF s d (by omega) s.Rays.length F 0 (by omega) (by omega) (λj r h=>by omega)
   ·rw [At (by simpa using c),if_pos c]
 ·rw [At (by simpa using h0),if_pos h0]
theorem Y1 {e:zD} (h:Tu e=0):(e.Kind=1\/e.Kind=2\/e.Kind=3)/\bdE e/\RE e e:=by
 unfold Tu at h
 by_cases b:e.Kind≠1/\e.Kind≠2/\e.Kind≠3
 ·rw [if_pos b] at h;cases h
 ·rw [if_neg b] at h;have c:e.Kind=1\/e.Kind=2\/e.Kind=3:=by omega
  have ho:A00 e=true:=by
   cases d:A00 e
   ·rw [d,if_neg (by decide)] at h;cases h
   ·rfl
  clear h b
  unfold A00 inB noB Sb at ho;have key:(0<=e.Power.Lo/\e.Power.Lo<=e.Power.Hi/\e.Power.Hi<=1073741824)/\(0<=e.Ratio.Lo/\e.Ratio.Lo<=e.Ratio.Hi/\e.Ratio.Hi<=1000000)/\(0<=e.Match.Lo/\e.Match.Lo<=e.Match.Hi/\e.Match.Hi<=1000) /\
    (-32768<=e.Turn.Lo/\e.Turn.Lo<=e.Turn.Hi/\e.Turn.Hi<=98304)/\(-32768<=e.Steps.1.Lo/\e.Steps.1.Lo<=e.Steps.1.Hi/\e.Steps.1.Hi<=98304)/\(-32768<=e.Steps.2.Lo/\e.Steps.2.Lo<=e.Steps.2.Hi/\e.Steps.2.Hi<=98304)/\0<=e.Spread/\e.Spread<=65535:=by
   by_cases k1:e.Kind=1
   ·simp only [k1,if_true,Bool.and_eq_true,decide_eq_true_eq] at ho;omega
   ·by_cases k2:e.Kind=2
    ·simp only [k1,k2,if_true,if_false,Bool.and_eq_true,decide_eq_true_eq,if_neg (show ¬(2:Int)=1 by decide)] at ho;omega
    ·simp only [if_neg k1,if_neg k2,Bool.and_eq_true,decide_eq_true_eq] at ho;omega
  refine ⟨c,?_,?_⟩
  ·unfold bdE bdS;omega
  ·refine ⟨rfl,?_,?_,?_,?_,?_,rfl⟩<;>(unfold InSp;omega)
theorem B0x (h:Un F s=some 0) (m:s.Rays.length<=16) (o:(∀l∈s.Rays,l.length<=1000)->(s.Rays.map (·.length)).sum<=60) :
  VSw s s.Rays.length s.Site.Gates.toNat/\(s.Rays.length:Int)=4*s.Site.Rose/\1<=s.Site.Gates:=by
 obtain ⟨c1,c2⟩:=B0o h;unfold Un at h;obtain ⟨e,he⟩:=V1 F s.Site;rw [he,sbd] at h;have h0:e=0:=by
  by_cases c:e≠0
  ·rw [if_pos c] at h;exact Option.some.inj h
  ·omega
 rw [if_neg (by omega)] at h;have ht:0<=s.Tilt/\s.Tilt<=256/\0<=s.Time/\s.Time<=4294967296:=by
  by_cases c:¬(0<=s.Tilt/\s.Tilt<=256/\0<=s.Time/\s.Time<=4294967296)
  ·rw [if_pos c] at h;cases h
  ·omega
 rw [if_neg (λc=>c ht)] at h;have p:(s.Rays.length:Int)=4*s.Site.Rose:=by
  by_cases c:(s.Rays.length:Int)≠4*s.Site.Rose
  ·rw [if_pos c] at h;cases h
  ·omega
 have g1:=A08 F s.Site (by rw [he,h0]);have g2:=Yl F s.Site (by rw [he,h0]);have b:∀l∈s.Rays,l.length=s.Site.Gates.toNat:=λl d=>by have:=c1 l d;omega
 have n:(s.Rays.map (·.length)).sum=s.Rays.length*s.Site.Gates.toNat:=by
  have:∀X:List (List zD),(∀l∈X,l.length=s.Site.Gates.toNat)->(X.map (·.length)).sum=X.length*s.Site.Gates.toNat:=by
   intro X
   induction X with
   | nil=>intro _;simp
   | cons l X ih =>
    intro m;rw [List.map_cons,List.sum_cons,List.length_cons,ih λx q=>m x (by simp [q]),m l (by simp),Nat.add_mul];omega
  exact this _ b
 have r:=o λl d=>by have:=b l d;omega
 have f:Swp s s.Rays.length s.Site.Gates.toNat:=by
  refine ⟨rfl,by omega,by omega,by omega,by omega,b,λl d e he=>(Y1 (c2 l d e he)).2.1,by omega⟩
 have g:∀k:Int,0<=k->k<(s.Rays.length*s.Site.Gates.toNat:Nat)->Tu (rowS s k)=0:=by
  intro k i j;obtain ⟨row,r1,r2,-⟩:=A11 f ⟨i,j⟩;exact c2 row (List.mem_of_getElem? r1) _ (List.mem_of_getElem? r2)
 exact ⟨⟨f,λk i j=>(Y1 (g k i j)).1,λk i j=>(Y1 (g k i j)).2.2⟩,p,g2.1⟩
theorem B0k (s:zF) (k:s.Rays.length<=maxLen) (hF:s.Rays.length+2<=F):∃b,Tw F s=some b/\(b=true->s.Rays.length<=16/\((∀l∈s.Rays,l.length<=1000)->(s.Rays.map (·.length)).sum<=60)):=by
 have p:maxLen=9223372036854775807:=rfl;have go:∀(n i:Nat) (x:Int),s.Rays.length+1<=n+i->i<=s.Rays.length->(s.Rays.length<=16->(∀l∈s.Rays,l.length<=1000)->x=(((s.Rays.take i).map (·.length)).sum:Nat)) ->
   ∃b,Mz s n x i=some b/\(b=true->s.Rays.length<=16/\((∀l∈s.Rays,l.length<=1000)->(s.Rays.map (·.length)).sum<=60)):=by
  intro n
  induction n with
  | zero=>intro i x q r;omega
  | succ n ih =>
   intro i x q r m;show ∃b,My s _ x i=_/\_;unfold My Qh
   by_cases hi:i<s.Rays.length
   ·have j:=List.getElem?_eq_getElem hi;have d:s.Rays.take (i+1)=s.Rays.take i++[s.Rays[i]]:=by rw [List.take_add_one,j];rfl
    have c:=List.getElem_mem hi;generalize s.Rays[i]=l at j d c;rw [At (dT (by omega)),C5 i l rfl j,show ∀f:Int->Option Bool,(ck ((i:Int)+1)).bind f=f ((i:Int)+1) from λf=>by unfold ck;rw [if_pos (by omega)];rfl];rw [show (i:Int)+1=((i+1:Nat):Int) by omega];refine ih (i+1) _ (by omega) (by omega) λg e=>?_;have t:=m g e;have hs:∀X:List (List zD),(∀l∈X,l.length<=1000)->(X.map (·.length)).sum<=1000*X.length:=by
     intro X
     induction X with
     | nil=>intro _;simp
     | cons a X ihX =>
      intro o;have:=o a (by simp);have:=ihX λb hb=>o b (by simp [hb]);rw [List.map_cons,List.sum_cons,List.length_cons];omega
    have u:=hs (s.Rays.take i) λl k=>e l (List.mem_of_mem_take k);have v:(s.Rays.take i).length<=16:=by simp;omega
    have y:=e l c;rw [t,Go.Eng.wrap64 (by omega),d,List.map_append,List.sum_append];simp
   ·rw [Ag (dF (by omega))];refine ⟨_,rfl,λhb=>?_⟩
    by_cases g:s.Rays.length<=16
    ·rw [dT (show (s.Rays.length:Int)<=16 by omega),At rfl] at hb;have hb:=of_decide_eq_true hb;refine ⟨g,λe=>?_⟩;have:=m g e;rw [List.take_of_length_le (by omega)] at this;omega
    ·rw [dF (show ¬(s.Rays.length:Int)<=16 by omega),Ag rfl] at hb;cases hb
 exact go F 0 0 (by omega) (by omega) (λ_ _=>rfl)
theorem A8e (k:Nat):L5 (k+4000)=some true:=by kernel_rfl
section
variable {n:zG} {ray gate:Int}
end
section
variable {n:zG} {ray gate:Int}
end
theorem A4e {b:Nat} (hb:b<R):(Y3 s R m L)[b]? = some ((List.range m).map λj=>jv ((b*m+j:Nat):Int) (Mt s L) 0 []):=by
 simp [Y3,hb]
theorem A9k (s:zF) (R m:Nat) (L:List (ByteArray×T)):(Y3 s R m L).length=R:=by simp [Y3]
def qe:zD:=⟨1,⟨0,0⟩,(⟨0,0⟩,⟨0,0⟩),0,⟨0,0⟩,⟨0,0⟩,⟨0,0⟩⟩
def clr (V:Int->zL) (m b i:Nat) (row:List zD):List zD:=row.mapIdx λj e=>if j<i/\0<=(V ((b*m+j:Nat):Int)).Rule then qe else e
theorem V5 {b j:Nat} {e:zD} (h:row[j]? = some e):(clr V m b i row)[j]? = some (if j<i/\0<=(V ((b*m+j:Nat):Int)).Rule then qe else e):=by
 unfold clr;rw [List.getElem?_mapIdx,h];rfl
theorem Ri {b:Nat} :(clr V m b i row).length=row.length:=by simp [clr]
theorem A8r {b:Nat} :clr V m b 0 row=row:=by
 apply List.ext_getElem?;intro j
 by_cases hj:j<row.length
 ·rw [V5 (List.getElem?_eq_getElem hj),if_neg (by omega),List.getElem?_eq_getElem hj]
 ·rw [List.getElem?_eq_none (by rw [Ri];omega),List.getElem?_eq_none (by omega)]
theorem A8q {b:Nat} (hi:i<row.length) (h:¬0<=(V ((b*m+i:Nat):Int)).Rule):clr V m b i row=clr V m b (i+1) row:=by
 apply List.ext_getElem?;intro j
 by_cases hj:j<row.length
 ·rw [V5 (List.getElem?_eq_getElem hj),V5 (List.getElem?_eq_getElem hj)]
  by_cases e:j=i
  ·subst e;rw [if_neg (by omega),if_neg (by omega)]
  ·congr 1
   by_cases c:j<i
   ·simp only [c,show j<i+1 by omega]
   ·simp only [c,show ¬j<i+1 by omega]
 ·rw [List.getElem?_eq_none (by rw [Ri];omega),List.getElem?_eq_none (by rw [Ri];omega)]
theorem B13 {b:Nat} (hi:i<row.length) (h:0<=(V ((b*m+i:Nat):Int)).Rule):(clr V m b i row).set i qe=clr V m b (i+1) row:=by
 apply List.ext_getElem?;intro j
 by_cases hj:j<row.length
 ·rw [V5 (V:=V) (m:=m) (b:=b) (i:=i+1) (List.getElem?_eq_getElem hj)]
  by_cases e:j=i
  ·subst e;rw [List.getElem?_set_self (by rw [Ri];omega),if_pos ⟨by omega,h⟩]
  ·rw [List.getElem?_set_ne (by omega),V5 (List.getElem?_eq_getElem hj)]
   congr 1
   by_cases c:j<i
   ·simp only [c,show j<i+1 by omega]
   ·simp only [c,show ¬j<i+1 by omega]
 ·rw [List.getElem?_eq_none (by rw [List.length_set,Ri];omega),List.getElem?_eq_none (by rw [Ri];omega)]
theorem B0h {l:List α} {x:α} (h:l[a]? = some x):l.set a x=l:=by
 apply List.ext_getElem?;intro j
 by_cases e:j=a
 ·subst e;rw [List.getElem?_set_self (List.getElem?_eq_some_iff.1 h).1,h]
 ·rw [List.getElem?_set_ne (by omega)]
def Ur (s:zF) (m:Nat) (L:List (ByteArray×T)):List (List zD):=s.Rays.mapIdx λb row=>clr (λk=>jv k (Mt s L) 0 []) m b m row
theorem A8p (h:Swp s R m) (v:GoodR L) (hF:3000<=F) (hs:Dn F s=some 0) :
  Nm F (rl L) s=some (⟨s.Site,s.Tilt,s.Time,Ur s m L⟩,0):=by
 have hm:=h.m1;have hR:=h.R4;have hN:=h.N1;have x:=v.len;have r:=h.hR;generalize y:(λk=>jv k (Mt s L) 0 [])=V;have l4:∀(a:Nat) (q:a<R) (row:List zD) (d:row.length=m) (k2:Int->List (List zD)->Option (zF×Int)) (n i:Nat) (l:List (List zD)),m+1<=n+i->i<=m->l.length=R->l[a]? = some (clr V m a i row) ->
   Mc (Y3 s R m L,0) a k2 row n i l=k2 ((a:Int)+1) (l.set a (clr V m a m row)):=by
  intro a q row d k2 n
  induction n with
  | zero=>intro i l t u;omega
  | succ n ih =>
   intro i l t u o f;show Po (Y3 s R m L,0) a k2 row _ i l=_;unfold Po Pp
   by_cases hi:i<m
   ·have g1:=A4e (s:=s) (m:=m) (L:=L) q;have g2:((List.range m).map λj=>jv ((a*m+j:Nat):Int) (Mt s L) 0 [])[i]? = some (V ((a*m+i:Nat):Int)):=by rw [←y];simp [hi]
    have g3:=V5 (V:=V) (m:=m) (b:=a) (i:=i) (List.getElem?_eq_getElem (l:=row) (i:=i) (by omega));rw [At (dT (by omega)),C5 a _ rfl g1,C5 i _ rfl g2]
    by_cases c:0<=(V ((a*m+i:Nat):Int)).Rule
    ·rw [At (dT (by omega)),C5 a _ rfl f,C5 i _ rfl g3,
      show L0 (clr V m a i row) (i:Int) (zD.mk 1 (zC.mk 0 0) ((zC.mk 0 0),(zC.mk 0 0)) 0 (zC.mk 0 0) (zC.mk 0 0) (zC.mk 0 0))=some (clr V m a (i+1) row) by
       unfold L0;rw [if_pos (by rw [Ri];omega),Int.toNat_natCast];exact congrArg some (B13 (by omega) c),sbd,
      show L0 l (a:Int) (clr V m a (i+1) row)=some (l.set a (clr V m a (i+1) row)) by unfold L0;rw [if_pos (by omega),Int.toNat_natCast],sbd,ckb (by omega)]
     have:=ih (i+1) (l.set a (clr V m a (i+1) row)) (by omega) (by omega) (by simp [o]) (List.getElem?_set_self (by omega));rw [List.set_set] at this;exact this
    ·rw [Ag (dF (by omega)),ckb (by omega)];exact ih (i+1) l (by omega) (by omega) o (by rw [f,A8q (by omega) c])
   ·rw [Ag (dF (by omega))];have e:i=m:=by omega
    subst e;unfold Rv;rw [ckb (by omega),B0h f]
 have l2:∀(n a:Nat) (l:List (List zD)),R+1<=n+a->a<=R->l.length=R->(∀(b:Nat) row,b<a->s.Rays[b]? = some row->l[b]? = some (clr V m b m row)) ->
   Mb F s (Y3 s R m L,0) n a l=some (⟨s.Site,s.Tilt,s.Time,Ur s m L⟩,0):=by
  intro n
  induction n with
  | zero=>intro a l t u;omega
  | succ n ih =>
   intro a l t u o f;show Pn F s (Y3 s R m L,0) _ a l=_;unfold Pn
   by_cases q:a<R
   ·have d:=List.getElem?_eq_getElem (l:=s.Rays) (i:=a) (by omega);have p:=h.rows _ (List.getElem_mem (l:=s.Rays) (n:=a) (by omega));generalize s.Rays[a]=row at d p;have z:=List.getElem?_eq_getElem (l:=l) (i:=a) (by omega);rw [At (dT (by omega)),C5 a _ rfl d];unfold Cl;rw [show apd 112 ([]:List zD) row=some row by unfold apd;rw [if_pos (by simp;omega)];rfl,sbd,sbd,C5 a _ rfl z,
     show L0 l (a:Int) row=some (l.set a row) by unfold L0;rw [if_pos (by omega),Int.toNat_natCast],sbd,
     show Mc (Y3 s R m L,0) a (Mb F s (Y3 s R m L,0) n) row F 0 (l.set a row)=_ from l4 a q row p _ F 0 (l.set a row) (by omega) (by omega) (by simp [o]) (by rw [A8r];exact List.getElem?_set_self (by omega)),List.set_set]
    refine ih (a+1) _ (by omega) (by omega) (by simp [o]) λb row' hb g=>?_
    by_cases e:b=a
    ·subst e;rw [d] at g
     cases g
     exact List.getElem?_set_self (by omega)
    ·rw [List.getElem?_set_ne (by omega)];exact f b row' (by omega) g
   ·rw [Ag (dF (by omega))];unfold Ru;have:l=Ur s m L:=by
     apply List.ext_getElem?;intro b
     by_cases hb:b<R
     ·have g:=List.getElem?_eq_getElem (l:=s.Rays) (i:=b) (by omega);rw [f b _ (by omega) g];unfold Ur;rw [List.getElem?_mapIdx,g,y];rfl
     ·rw [List.getElem?_eq_none (by omega),List.getElem?_eq_none (by simp [Ur];omega)]
    rw [this]
 unfold Nm;rw [A4f h v hF hs,sbd];dsimp only;rw [Ag (neF rfl),r,show mkI 24 (R:Int) ([]:List zD)=some (List.replicate R []) by unfold mkI;rw [if_pos (by simp only [Int.toNat_natCast];omega),Int.toNat_natCast],sbd];exact l2 F 0 _ (by omega) (by omega) (by simp) (λb row hb=>by omega)
def rjv (v:zL):zM:=⟨v.Rule,v.Doubts⟩
section
def S1 (s:zF) (R m:Nat) (L:List (ByteArray×T)):List (List (List Int)):=(Mt s L).map λf=>Ec R m f
theorem B1z (q:L.length<=40) (e:a<R) (hi:i<m) {st:List zM} {k7:List zM->Int->Option (List (List zM)×Int)} {v:zL} :
  ∀(n j:Nat) (x:Int) (l:List Int),L.length+1<=n+j->j<=L.length->l.length<=j->(x<0/\x=-1/\jv ((a*m+i:Nat):Int) ((Mt s L).drop j) j l=v\/0<=x/\v=⟨x,l⟩) ->
   Jb (rrl L) (S1 s R m L) a st i k7 n x l j=Nk st i k7 v.Rule v.Doubts:=by
 have g:(rrl L).length=L.length:=by simp [rrl]
 have k:(Mt s L).length=L.length:=by simp [Mt]
 intro n
 induction n with
 | zero=>intro j x l o p;omega
 | succ n ih =>
  intro j x l o p r b;show Lv (rrl L) (S1 s R m L) a st i k7 _ x l j=_;unfold Lv;rw [g];rcases b with ⟨c,rfl,b⟩|⟨c,b⟩
  ·by_cases hj:j<L.length
   ·have d:(S1 s R m L)[j]? = some (Ec R m (Mt s L)[j]):=by simp [S1,k,hj]
    rw [List.drop_eq_getElem_cons (by omega),jv] at b;generalize (Mt s L)[j]=f at d b;rw [At (by rw [dT (show (j:Int)<(L.length:Nat) by omega)];rfl),C5 j _ rfl d,gg e hi];unfold Ly Lx
    by_cases c1:f ((a*m+i:Nat):Int)=1
    ·rw [if_pos c1] at b;rw [At (eqT c1),C5 j _ rfl d,gg e hi,Ag (eqF (by omega)),ckb (by omega)];exact ih (j+1) _ l (by omega) (by omega) (by omega) (.inr ⟨by omega,b.symm⟩)
    ·rw [if_neg c1] at b;rw [Ag (eqF c1),C5 j _ rfl d,gg e hi]
     by_cases c2:f ((a*m+i:Nat):Int)=2
     ·rw [if_pos c2] at b;rw [At (eqT c2),show apd 8 l [(j:Int)]=some (l++[(j:Int)]) by unfold apd;rw [if_pos (by simp;omega)],sbd,ckb (by omega)];exact ih (j+1) _ _ (by omega) (by omega) (by simp;omega) (.inl ⟨by omega,rfl,b⟩)
     ·rw [if_neg c2] at b;rw [Ag (eqF c2),ckb (by omega)];exact ih (j+1) _ _ (by omega) (by omega) (by omega) (.inl ⟨by omega,rfl,b⟩)
   ·rw [Ag (by rw [dF (show ¬(j:Int)<(L.length:Nat) by omega)];rfl)];rw [List.drop_eq_nil_of_le (by omega),jv] at b;subst b;rfl
  ·rw [Ag (by rw [dF (show ¬x<0 by omega)];cases decide ((j:Int)<(L.length:Nat))<;>rfl),b]
theorem A31 (h:VSw s R m) (l:GoodR L) (hF:4000<=F) (u:N8 F (rrl L)=some 0) (hs:Ej F s=some 0) :
  Ha F (rrl L) s=some (Ec R m (λk=>rjv (jv k (Mt s L) 0 [])),0):=by
 have y:=h.sw.N1;have hR:=h.sw.R4;have hm:=h.sw.m1;have r:=l.len;generalize v:(λk=>rjv (jv k (Mt s L) 0 []))=g;have l7:∀(a:Nat),a<R->∀st k4 (n i:Nat),m+1<=n+i->i<=m->J3 F (rrl L) s (S1 s R m L) a st k4 n ((List.range i).map λi=>g ((a*m+i:Nat):Int)) i=Nj a st k4 ((List.range m).map λi=>g ((a*m+i:Nat):Int)):=by
  intro a f st k4 n
  induction n with
  | zero=>intro i c d;omega
  | succ n ih =>
   intro i c d;show Ni F (rrl L) s (S1 s R m L) a st k4 _ _ i=_;unfold Ni;have t:a<s.Rays.length:=by rw [h.sw.hR];exact f
   rw [C5 a _ rfl (List.getElem?_eq_getElem t),h.sw.rows _ (List.getElem_mem t)]
   by_cases hi:i<m
   ·rw [At (dT (by omega)),show Jb (rrl L) (S1 s R m L) a ((List.range i).map λi=>g ((a*m+i:Nat):Int)) i (J3 F (rrl L) s (S1 s R m L) a st k4 n) F (-1) [] 0=_ from
     B1z (by omega) f hi F 0 (-1) [] (by omega) (by omega) (by simp) (.inl ⟨by omega,rfl,rfl⟩)]
    unfold Nk Qs;rw [show apd 32 ((List.range i).map λi=>g ((a*m+i:Nat):Int)) [(zM.mk (jv ((a*m+i:Nat):Int) (List.drop 0 (Mt s L)) (0:Nat) []).Rule (jv ((a*m+i:Nat):Int) (List.drop 0 (Mt s L)) (0:Nat) []).Doubts)]=some ((List.range (i+1)).map λi=>g ((a*m+i:Nat):Int)) by
     unfold apd;rw [if_pos (by simp;omega),List.range_succ,List.map_append,←v];rfl,sbd,ckb (by omega)]
    exact ih (i+1) (by omega) (by omega)
   ·rw [Ag (dF (by omega)),show i=m by omega]
 have l4:∀(n a:Nat),R+1<=n+a->a<=R->Kl F (rrl L) s (S1 s R m L) n a (Ec a m g)=some (Ec R m g,0):=by
  intro n
  induction n with
  | zero=>intro a c d;omega
  | succ n ih =>
   intro a c d;show Nh F (rrl L) s (S1 s R m L) _ a _=_;unfold Nh Qq;rw [h.sw.hR]
   by_cases f:a<R
   ·rw [At (dT (by omega)),show J3 F (rrl L) s (S1 s R m L) a (Ec a m g) (Kl F (rrl L) s (S1 s R m L) n) F [] 0=_ from l7 a f _ _ F 0 (by omega) (by omega)];unfold Nj Qr;rw [show apd 24 (Ec a m g) [(List.range m).map λi=>g ((a*m+i:Nat):Int)]=some (Ec (a+1) m g) by
     unfold apd Ec;rw [if_pos (by simp;omega),List.range_succ,List.map_append];rfl,sbd,ckb (by omega)]
    exact ih (a+1) (by omega) (by omega)
   ·rw [Ag (dF (by omega)),show a=R by omega]
 have l13:∀(n j:Nat),L.length+1<=n+j->j<=L.length->Lz F (rrl L) s n (S1 s R m (L.take j)) j=some (Ec R m g,0):=by
  intro n
  induction n with
  | zero=>intro j c d;omega
  | succ n ih =>
   intro j c d;show Lw F (rrl L) s _ _ j=_;unfold Lw Qp;rw [show (rrl L).length=L.length by simp [rrl]]
   by_cases hj:j<L.length
   ·have o:=List.getElem?_eq_getElem hj;have b:=List.getElem_mem hj;have e:L.take (j+1)=L.take j++[L[j]]:=by rw [List.take_add_one,o];rfl
    generalize L[j]=p at o b e;have x:=Nat.le_trans (A12 b) l.size;have q:=(B0s h p.2 F (by omega) (by omega)).1 (l.trees p b).1;rw [At (dT (by omega)),C5 j (rrN p) rfl (by simp [rrl,o]),show D6 F (rrN p).When s=_ from q,sbd,
     show apd 24 (S1 s R m (L.take j)) [Ec R m λk=>(p.2.sem s k).1]=some (S1 s R m (L.take (j+1))) by
      unfold apd;rw [if_pos (by simp [S1,Mt];omega),e];simp [S1,Mt],sbd,ckb (by omega)]
    exact ih (j+1) (by omega) (by omega)
   ·rw [Ag (dF (by omega)),show j=L.length by omega,List.take_length];exact l4 F 0 (by omega) (by omega)
 unfold Ha J2;rw [u,sbd,At (eqT rfl),hs,sbd,Ag (neF rfl)];exact l13 F 0 (by omega) (by omega)
theorem A81 (h:VSw s R m) (y:GoodR L) (hF:4000<=F) (z:N8 F (rrl L)=some 0) (hs:Ej F s=some 0) :
  L6 F (rrl L) s=some (⟨s.Site,s.Tilt,s.Time,Ur s m L⟩,0):=by
 have hN:=h.sw.N1;have hR:=h.sw.R4;have hm:=h.sw.m1;generalize v:(λk=>jv k (Mt s L) 0 [])=V;have hG:Ec R m (λk=>rjv (jv k (Mt s L) 0 []))=Ec R m (λk=>rjv (V k)):=by rw [←v]
 have l5:∀(a:Nat),a<R->∀(row:List zD),s.Rays[a]? = some row->row.length=m->∀st k2 (n i:Nat),m+1<=n+i->i<=m ->
   J1 s (Ec R m (λk=>rjv (V k)),0) st a k2 n ((clr V m a m row).take i) i=Kh st a k2 (clr V m a m row):=by
  intro a o row d f st k2 n
  induction n with
  | zero=>intro i p r;omega
  | succ n ih =>
   intro i p r;show Nf s (Ec R m (λk=>rjv (V k)),0) st a k2 _ _ i=_;unfold Nf;rw [C5 a _ rfl d,f]
   by_cases hi:i<m
   ·have he:=List.getElem?_eq_getElem (l:=row) (i:=i) (by omega);have j:=V5 (V:=V) (m:=m) (b:=a) (i:=m) he;have g:(clr V m a m row).take (i+1)=(clr V m a m row).take i++[if i<m/\0<=(V ((a*m+i:Nat):Int)).Rule then qe else row[i]]:=by rw [List.take_add_one,j];rfl
    generalize row[i]=e at he j g;have fin:∀q:zD,q=(if i<m/\0<=(V ((a*m+i:Nat):Int)).Rule then qe else e)->Ki ((clr V m a m row).take i) i (J1 s (Ec R m (λk=>rjv (V k)),0) st a k2 n) q.Kind q.Power.Lo q.Match.Lo q.Match.Hi q.Turn.Lo q.Turn.Hi q.Power.Hi q.Steps.1.Lo q.Steps.1.Hi q.Steps.2.Lo q.Steps.2.Hi q.Spread q.Ratio.Lo q.Ratio.Hi=Kh st a k2 (clr V m a m row):=by
     intro q hq;unfold Ki;rw [show apd 112 ((clr V m a m row).take i) [(zD.mk q.Kind (zC.mk q.Power.Lo q.Power.Hi) ((zC.mk q.Steps.1.Lo q.Steps.1.Hi),(zC.mk q.Steps.2.Lo q.Steps.2.Hi)) q.Spread (zC.mk q.Ratio.Lo q.Ratio.Hi) (zC.mk q.Match.Lo q.Match.Hi) (zC.mk q.Turn.Lo q.Turn.Hi))]=some ((clr V m a m row).take (i+1)) by
      unfold apd;rw [if_pos (by simp [Ri];omega),g,←hq],sbd,ckb (by omega)]
     exact ih (i+1) (by omega) (by omega)
    rw [At (dT (by omega)),C5 a _ rfl d,C5 i _ rfl he];dsimp only;rw [gg o hi]
    by_cases c:0<=(V ((a*m+i:Nat):Int)).Rule
    ·rw [At (dT (show (rjv (V ((a*m+i:Nat):Int))).Rule>=0 from c))];exact fin qe (by rw [if_pos ⟨hi,c⟩])
    ·rw [Ag (dF (show ¬(rjv (V ((a*m+i:Nat):Int))).Rule>=0 from c))];exact fin e (by rw [if_neg λh=>c h.2])
   ·rw [Ag (dF (by omega)),List.take_of_length_le (by rw [Ri];omega)]
 have t:(Ur s m L).length=R:=by simp [Ur,h.sw.hR]
 have l2:∀(n a:Nat),R+1<=n+a->a<=R->Kj F s (Ec R m (λk=>rjv (V k)),0) n ((Ur s m L).take a) a=some (⟨s.Site,s.Tilt,s.Time,Ur s m L⟩,0):=by
  intro n
  induction n with
  | zero=>intro a p r;omega
  | succ n ih =>
   intro a p r;show Nd F s (Ec R m (λk=>rjv (V k)),0) _ _ a=_;unfold Nd Qm;rw [h.sw.hR]
   by_cases o:a<R
   ·have x:a<s.Rays.length:=by rw [h.sw.hR];exact o
    have d:=List.getElem?_eq_getElem x;have f:=h.sw.rows _ (List.getElem_mem x);generalize s.Rays[a]=row at d f;have u:(Ur s m L)[a]? = some (clr V m a m row):=by unfold Ur;rw [List.getElem?_mapIdx,d,v];rfl
    have g:(Ur s m L).take (a+1)=(Ur s m L).take a++[clr V m a m row]:=by rw [List.take_add_one,u];rfl
    rw [At (dT (by omega)),show J1 s (Ec R m (λk=>rjv (V k)),0) ((Ur s m L).take a) a (Kj F s (Ec R m (λk=>rjv (V k)),0) n) F [] 0=_ from l5 a o row d f _ _ F 0 (by omega) (by omega)];unfold Kh Qn;rw [show apd 24 ((Ur s m L).take a) [clr V m a m row]=some ((Ur s m L).take (a+1)) by unfold apd;rw [if_pos (by simp [t];omega),g],sbd,ckb (by omega)];exact ih (a+1) (by omega) (by omega)
   ·rw [Ag (dF (by omega)),List.take_of_length_le (by omega)]
 unfold L6;rw [A31 h y hF z hs,sbd];dsimp only;rw [Ag (neF rfl),hG];exact l2 F 0 (by omega) (by omega)
end
theorem A7o (s:zF) (R m:Nat) (L:List (ByteArray×T)):Y3 s R m L=Ec R m (λk=>jv k (Mt s L) 0 []):=by
 apply List.ext_getElem?;intro b
 by_cases hb:b<R
 ·rw [A4e hb,Qe hb]
 ·rw [List.getElem?_eq_none (by simp [Y3,Xa];omega),List.getElem?_eq_none (by rw [We];omega)]
theorem B1g (e:zP):((e.Name==e.Name)&&(((e.X:Int)==e.X)&&(((e.Y:Int)==e.Y)&&(((e.Z:Int)==e.Z)&&(((e.Rose:Int)==e.Rose)&&(((e.Gates:Int)==e.Gates)&&(((e.Step:Int)==e.Step)&&(((e.Width:Int)==e.Width)&&true))))))))=true:=by
 have h:(e.Name==e.Name)=true:=by
  generalize e.Name=b;show (b.data==b.data)=true;exact beq_self_eq_true _
 rw [h];simp only [beq_self_eq_true,Bool.and_self]
theorem A9g {p0:List zN} {p1:zF} (hF:2000<=F) (hR:R<=1000) (hm:m<=1000) (j:∀k,(V k).Doubts.length<=1000) {e:Int} :
  ∀(n a:Nat),R+1<=n+a->a<=R->Ce F p0 p1 (Ec R m V,e) (Ec R m (λk=>rjv (V k)),e) n a=Fa F p0 p1:=by
 have l9:∀(a:Nat),a<R->∀k7 (n i:Nat),m+1<=n+i->i<=m->Fe F (Ec R m V,e) (Ec R m (λk=>rjv (V k)),e) a k7 n i=k7 ((a:Int)+1):=by
  intro a b k7 n
  induction n with
  | zero=>intro i d f;omega
  | succ n ih =>
   intro i d f;show Gn F (Ec R m V,e) (Ec R m (λk=>rjv (V k)),e) a k7 _ i=_;unfold Gn;dsimp only;rw [C5 a _ rfl (Qe b)];rw [show ((((List.range m).map λi=>V ((a*m+i:Nat):Int)).length:Nat):Int)=(m:Int) by simp]
   by_cases hi:i<m
   ·have l:=A5x (V ((a*m+i:Nat):Int)).Doubts (j _) (F:=F) (by omega);rw [At (dT (by omega)),gg b hi,gg b hi,gg b hi,gg b hi];rw [show ((V ((a*m+i:Nat):Int)).Rule != (rjv (V ((a*m+i:Nat):Int))).Rule)=false from neF rfl,gdT (g:=(false==false&&true)) rfl,show Jq F (V ((a*m+i:Nat):Int)).Doubts (rjv (V ((a*m+i:Nat):Int))).Doubts=some true from l,sbd,Ag (c:=bif false then true else (!true)) rfl,ckb (by omega)];exact ih (i+1) (by omega) (by omega)
   ·rw [Ag (dF (by omega))];unfold Jy;rw [ckb (by omega)]
 intro n
 induction n with
 | zero=>intro a d f;omega
 | succ n ih =>
  intro a d f;show Gm F p0 p1 (Ec R m V,e) (Ec R m (λk=>rjv (V k)),e) _ a=_;unfold Gm;dsimp only;rw [We]
  by_cases b:a<R
  ·rw [At (dT (by omega)),C5 a _ rfl (Qe b),C5 a _ rfl (Qe b),Ag (neF (by simp)),show Fe F (Ec R m V,e) (Ec R m (λk=>rjv (V k)),e) a (Ce F p0 p1 (Ec R m V,e) (Ec R m (λk=>rjv (V k)),e) n) F 0=_ from l9 a b _ F 0 (by omega) (by omega)];exact ih (a+1) (by omega) (by omega)
  ·rw [Ag (dF (by omega))]
theorem B3o (hF:2000<=F) {x:zF} {e:Int} (hR:x.Rays.length<=1000) (hm:∀l∈x.Rays,l.length<=1000) (k:L5 F=some true) :
  ∀(n a:Nat),x.Rays.length+1<=n+a->a<=x.Rays.length->Fb F (x,e) (x,e) n a=some true:=by
 have l6:∀(a:Nat) (row:List zD),x.Rays[a]? = some row->row.length<=1000->∀k4 (n i:Nat),row.length+1<=n+i->i<=row.length->a<=1000->Fc (x,e) (x,e) a k4 n i=k4 ((a:Int)+1):=by
  intro a row b g k4 n
  induction n with
  | zero=>intro i d f;omega
  | succ n ih =>
   intro i d f c;show Gl (x,e) (x,e) a k4 _ i=_;unfold Gl;dsimp only;rw [C5 a _ rfl b]
   by_cases hi:i<row.length
   ·have j:=List.getElem?_eq_getElem hi;rw [At (dT (by omega)),C5 a _ rfl b,C5 i _ rfl j,C5 a _ rfl b,C5 i _ rfl j,Ag (by simp),ckb (by omega)];exact ih (i+1) (by omega) (by omega) c
   ·rw [Ag (dF (by omega))];unfold Jx;rw [ckb (by omega)]
 intro n
 induction n with
 | zero=>intro a d f;omega
 | succ n ih =>
  intro a d f;show Gk F (x,e) (x,e) _ a=_;unfold Gk Jw;dsimp only
  by_cases c:a<x.Rays.length
  ·have b:=List.getElem?_eq_getElem c;have g:=hm _ (List.getElem_mem c);rw [At (dT (by omega)),C5 a _ rfl b,C5 a _ rfl b,Ag (neF rfl),show Fc (x,e) (x,e) a (Fb F (x,e) (x,e) n) F 0=_ from l6 a _ b g _ F 0 (by omega) (by omega) (by omega)];exact ih (a+1) (by omega) (by omega)
  ·rw [Ag (dF (by omega)),k];rfl
theorem A9f {p0:List zN} {p1:zF} (hF:2000<=F) (b:L5 F=some true) {x:zF} {e:Int} {l:List zJ} (h0:Q7 F p0=some l) (c:Nm F l p1=some (x,e)) (d:L6 F p0 p1=some (x,e))
  (hR:x.Rays.length<=1000) (hm:∀l∈x.Rays,l.length<=1000):Fa F p0 p1=some true:=by
 unfold Fa;rw [h0,sbd,c,sbd,d,sbd];dsimp only;rw [B1g,Ag (A3j (A3j (A3j (A3j (x:=!true) rfl (neF rfl)) (neF rfl)) (neF rfl)) (neF rfl))];exact B3o hF hR hm b F 0 (by omega) (by omega)
theorem A1z (l:List zN) (s:zF) (hl:s.Rays.length<=maxLen):Ka (s.Rays.length+4000) l s=some true:=by
 generalize hF:s.Rays.length+4000=F;have d:L5 F=some true:=by rw [←hF];exact A8e _
 obtain ⟨b,b1,b2⟩:=B3m l (F:=F) (by omega);obtain ⟨b',b3,b4⟩:=B0k s hl (F:=F) (by omega);have k1:∀x:Int,Gp F l s x=some true:=by
  intro x;unfold Gp;generalize (bif (decide (x>60)) then (decide (x<=300)) else false)=c
  cases c
  ·rw [gdT (g:=(false==false&&true)) rfl,b1,sbd]
   cases b
   ·rw [gdF (g:=((bif false then true else (!false))==false&&true)) rfl,sbd,At (c:=bif (bif false then true else (!false)) then true else (!default)) rfl,d];rfl
   ·rw [gdT (g:=((bif false then true else (!true))==false&&true)) rfl,b3,sbd]
    cases b'
    ·rw [At (c:=bif (bif false then true else (!true)) then true else (!false)) rfl,d];rfl
    ·rw [Ag (c:=bif (bif false then true else (!true)) then true else (!true)) rfl];obtain ⟨t,u⟩:=b2 rfl;obtain ⟨z,h4⟩:=b4 rfl;have f:=B0c (l:=l) (F:=F) (by omega) (λp hp=>by have:=A4l hp;omega) (by omega);rw [f,sbd];obtain ⟨e,e1,e2,e3⟩:=A8m u t (F:=F) (by omega);have err:∀e',e'≠0->J6 F (l.map cvR) s=some ([],e')->Ha F l s=some ([],e')->((J6 F (l.map cvR) s).bind λy65=>(Ha F l s).bind λy110=>bif (bif ((y65.1.length:Int) != (y110.1.length:Int)) then true else (y65.2 != y110.2)) then (some false) else (Ce F l s y65 y110 F 0))=some true:=by
      intro e' j q1 q2;rw [q1,sbd,q2,sbd];dsimp only;rw [Ag (c:=bif (((([]:List (List zL)).length:Nat):Int) != ((([]:List (List zM)).length:Nat):Int)) then true else (e' != e')) (A3j (neF rfl) (neF rfl))];have c1:Nm F (l.map cvR) s=some ((zF.mk (zP.mk ByteArray.empty 0 0 0 0 0 0 0) 0 0 ([]:(List (List zD)))),e'):=by
       unfold Nm;rw [q1,sbd];dsimp only;rw [At (neT j)]
      have c2:L6 F l s=some ((zF.mk (zP.mk ByteArray.empty 0 0 0 0 0 0 0) 0 0 ([]:(List (List zD)))),e'):=by
       unfold L6;rw [q2,sbd];dsimp only;rw [At (neT j)]
      rw [show Ce F l s ([],e') ([],e') F 0=_ from A9g (p0:=l) (p1:=s) (F:=F) (R:=0) (m:=0) (V:=λ_=>⟨0,[]⟩) (e:=e') (by omega) (by omega) (by omega) (λ_=>by simp) F 0 (by omega) (by omega)];exact A9f (by omega) d f c1 c2 (by simp) (by simp)
     by_cases h0:e=0
     ·subst h0;obtain ⟨L,o,rfl⟩:=e3 rfl;have b5:=o.len;obtain ⟨e',he⟩:=A64 (F:=F) (s:=s);have p1:Dn F s=some e':=by rw [A9x F (by omega) s (by omega),he]
      have p2:Ej F s=some e':=by rw [B02 F (by omega) s (by omega),he]
      by_cases q:e'=0
      ·subst q;obtain ⟨v,-,-⟩:=B0x he z h4;have hN:=v.sw.N1;have hR:=v.sw.R4;have hm:=v.sw.m1;have y:=B3g L;rw [y] at f ⊢;rw [A4f v.sw o (by omega) p1,sbd,A31 v o (by omega) e2 p2,sbd];dsimp only;rw [Ag (A3j (neF (by rw [A9k,We])) (neF rfl)),A7o,
        show Ce F (rrl L) s (Ec s.Rays.length s.Site.Gates.toNat (λk=>jv k (Mt s L) 0 []),0) (Ec s.Rays.length s.Site.Gates.toNat (λk=>rjv (jv k (Mt s L) 0 [])),0) F 0=_ from
         A9g (V:=λk=>jv k (Mt s L) 0 []) (by omega) (by omega) (by omega) (λk=>by have:=B3p k (Mt s L) 0 [];rw [show (Mt s L).length=L.length by simp [Mt],List.length_nil] at this;omega) F 0 (by omega) (by omega)]
       exact A9f (by omega) d f (A8p v.sw o (by omega) p1) (A81 v o (by omega) e2 p2) (by simp [Ur];omega) (λr hr=>by
        obtain ⟨i,hi,rfl⟩:=List.mem_iff_getElem.1 hr;simp only [Ur,List.getElem_mapIdx,Ri];have:=v.sw.rows _ (List.getElem_mem (l:=s.Rays) (n:=i) (by simpa [Ur] using hi));omega)
      ·refine err e' q ?_ ?_
       ·unfold J6;rw [e1,sbd,Ag (neF rfl),p1,sbd,At (neT q)]
       ·unfold Ha J2;rw [e2,sbd,At (eqT rfl),p2,sbd,At (neT q)]
     ·refine err e h0 ?_ ?_
      ·unfold J6;rw [e1,sbd,At (neT h0)]
      ·unfold Ha J2;rw [e2,sbd,Ag (eqF h0),At (neT h0)]
  ·rw [gdF (g:=(true==false&&true)) rfl,sbd,gdF (g:=((bif true then true else (!default))==false&&true)) rfl,sbd,At (c:=bif (bif true then true else (!default)) then true else (!default)) rfl,d];rfl
 have l10:∀(n i:Nat) (x:Int),l.length+1<=n+i\/402<=n+x->1<=n->i<=x->i<=l.length->0<=x->x<=801->G2 F l s n x i=some true:=by
  intro n
  induction n with
  | zero=>intro i x t u;omega
  | succ n ih =>
   intro i x t u z h4 q h6;show G1 F l s _ x i=_;unfold G1
   by_cases c:i<l.length/\x<=400
   ·have hx:=List.getElem?_eq_getElem c.1;have hn:=A1j 400 F (l[i]).When (by omega) (by omega);have hc:1<=cnt 400 (l[i]).When/\cnt 400 (l[i]).When<=401:=by
     have:1<=nds (l[i]).When:=by cases (l[i]).When;simp [nds]
     unfold cnt;omega
    generalize l[i]=r at hx hn hc;rw [At (by rw [dT (show (i:Int)<(l.length:Nat) by omega),dT c.2];rfl),C5 i _ rfl hx,show E3 F r.When 400=_ from hn,sbd,ckb (by omega),ckb (by omega)];exact ih (i+1) _ (by omega) (by omega) (by omega) (by omega) (by omega) (by omega)
   ·rw [Ag (by
     by_cases c1:i<l.length
     ·rw [dF (show ¬x<=400 by omega)];cases decide ((i:Int)<(l.length:Nat))<;>rfl
     ·rw [dF (show ¬(i:Int)<(l.length:Nat) by omega)];rfl)]
    exact k1 x
 unfold Ka;exact l10 F 0 0 (by omega) (by omega) (by omega) (by omega) (by omega) (by omega)
end Go.Proofs.YtkjnafecmjakcaaGreatDoor
