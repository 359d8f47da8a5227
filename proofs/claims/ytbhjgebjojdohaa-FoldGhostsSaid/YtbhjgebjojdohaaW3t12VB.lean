import Derived.Test.YtbhjgebjojdohaaW3t12VA
import Derived.Laws.MakeOwn
import Derived.RangeFuncRecord
import Derived.MapKept
import Derived.LaidEql
set_option linter.unusedVariables false
set_option linter.unusedSimpArgs false
set_option linter.unusedSectionVars false
namespace Go.Ev
open Go Go.Eng
set_option linter.unusedVariables false
section
variable {P:Program} {w0 w w':World} {s s':S} {H:Mem} {x:Cx} {o:Oper}
theorem Ts {v:Operand} {i:Nat} (hop:o.op=.extract v i) (hv:OdIn o v):C5 P o (fun run t s K=>xEx t s K (od v) i):=by
 refine C9 (fun c e=>by rw [hop] at e;cases e) fun run t s K out h=>?_
 unfold xEx at h;rw [Aj] at h
 split at h
 ·rename_i vs e1
  obtain ⟨u,hu,h⟩:=Au h;refine ⟨u,h,fun x' a w hF=>?_⟩;have g:=Ai (a:=a) hF hv;rw [e1] at g;obtain ⟨p',h1,h2⟩:=g.tupleI;obtain ⟨u',h3,h4⟩:=h2.get hu;refine ⟨u',?_,h4⟩;rw [Array.getElem?_toList] at h3;simp [execOp,hop,h1,Instr.extract,h3]
 ·cases h
theorem A0z {v:Operand} (hop:o.op=.nilCheck v) (hv:OdIn o v):C5 P o (fun run t s K=>xNc t s K (od v)):=by
 refine C9 (fun c e=>by rw [hop] at e;cases e) fun run t s K out h=>?_
 unfold xNc at h;rw [Aj] at h
 split at h
 ·rename_i a0 e1
  refine ⟨_,h,fun x' a w hF=>?_⟩;have g:=Ai (a:=a) hF hv;rw [e1] at g;generalize hx:a.eval v=v' at g
  cases g with
  | ptr hp=>exact ⟨_,by simp [execOp,hop,hx],.ptr hp⟩
 ·rename_i f p q e1
  refine ⟨_,h,fun x' a w hF=>?_⟩;have g:=Ai (a:=a) hF hv;rw [e1] at g;generalize hx:a.eval v=v' at g
  cases g with
  | func hf h1 h2=>exact ⟨_,by simp [execOp,hop,hx],.func hf h1 h2⟩
 ·rename_i f p q e1
  refine ⟨_,h,fun x' a w hF=>?_⟩;have g:=Ai (a:=a) hF hv;rw [e1] at g;generalize hx:a.eval v=v' at g
  cases g with
  | func hf h1 h2=>exact absurd rfl (hf f)
  | yld hp=>exact ⟨_,by simp [execOp,hop,hx],.yld hp⟩
 ·rename_i f p e1
  refine ⟨_,h,fun x' a w hF=>?_⟩;have g:=Ai (a:=a) hF hv;rw [e1] at g;generalize hx:a.eval v=v' at g
  cases g with
  | iface h1=>exact ⟨_,by simp [execOp,hop,hx],.iface h1⟩
 ·cases h
theorem Gk (t:Fm):∀(l:List Od) (K:List Value→Option Out),M9 t l K=K (l.map t.v)
 | [],K=>rfl
 | v::l,K=>by
  show t.K v (fun v=>M9 t l fun l=>K (v::l))=_;rw [Aj,Gk t l];rfl
theorem Kt {t:Fm} {a:Act} (hF:EnvR x t a o):∀{l:List Operand},(∀y∈l,OdIn o y)→VRL x ((l.map od).map t.v) (l.map a.eval)
 | [],_=>.nil
 | v::l,h=>by
  exact .cons (Ai hF (h v (List.mem_cons_self ..))) (Kt hF fun y hy=>h y (List.mem_cons_of_mem _ hy))
theorem Z3 {f:FuncId} {p q:Array Operand} (hop:o.op=.makeFunc (.func f) p q) (hp:∀y∈p.toList,OdIn o y) (hq:∀y∈q.toList,OdIn o y) :
  C5 P o (fun run t s K=>xMf t s K f (p.toList.map od) (q.toList.map od)):=by
 refine C9 (fun c e=>by rw [hop] at e;cases e) fun run t s K out h=>?_
 unfold xMf at h;rw [Gk,Gk] at h;refine ⟨_,h,fun x' a w hF=>⟨.func (.func f) (p.map a.eval) (q.map a.eval),?_,?_⟩⟩
 ·simp [execOp,hop,Instr.makeFunc]
 ·refine .func (fun l e=>by cases e) ?_ ?_
  ·have:=Kt (a:=a) hF hp
   simpa using this
  ·have:=Kt (a:=a) hF hq
   simpa using this
theorem Hk {K:Value→S→Option Out} {r:Option Out} {out:Out} (h:W9 K r=some out):∃v s',r=some (.val v s')∧K v s'=some out:=by
 obtain ⟨b,rfl,h⟩:=Au h
 cases b with
 | val v s'=>exact ⟨v,s',rfl,h⟩
 | _=>cases h
theorem Z1 {c:Call} {f:FuncId} (hop:o.op=.call c) (hc:c.callee=.value (.func f)) (ha:∀y∈c.args.toList,OdIn o y):C5 P o (fun run t s K=>xCl t s K run f (c.args.toList.map od)):=by
 intro run fm s K out hr ho h;have h:M9 fm (c.args.toList.map od) (fun args=>W9 K (run (.call f args) s))=some out:=h;rw [Gk] at h;obtain ⟨v,s',h1,h2⟩:=Hk h;obtain ⟨q1,q2,q3⟩:=hr.call f _ s v s' ho h1;refine ⟨v,s',q1,q2,h2,fun w0 H x w r act hp hF=>?_⟩;have hd:∀c,o.op≠.defer c:=fun c e=>by rw [hop] at e;cases e
 have:=q3 w0 H x w _ hp (Kt (a:=act) hF ha);unfold OpZ;rw [Oper.semAt_eq r act.eval o hd];have hrun:(execOp act.eval o).run P w=.ok (.enter f (c.args.toList.map act.eval).toArray) w:=by
  have e1:=hr.ent _ _ _ _ _ h1 (c.args.map act.eval) w;have e2:(c.args.toList.map act.eval).toArray=c.args.map act.eval:=Array.toList_inj.1 (by rw [Array.toList_map]);rw [e2];simp [execOp,hop,resolve,hc,Act.eval,Deferred.ofValue,invoke,e1]
 rw [hrun];exact this
end
end Go.Ev
namespace Go.Ev
open Go Go.Eng
set_option linter.unusedVariables false
section
variable {P:Program} {w0 w w':World} {s s':S} {H:Mem} {x:Cx} {o:Oper}
theorem Sp:∀(n:Nat) (l r:List Value),takeN n l=some r→r=l.take n∧r.length=n
 | 0,l,r,h=>by simp only [takeN,Option.some.injEq] at h;subst h;simp
 | n+1,[],r,h=>by simp [takeN] at h
 | n+1,v::l,r,h=>by
  unfold takeN at h
  split at h
  ·rename_i q hq
   cases h
   obtain ⟨h1,h2⟩:=Sp n l q hq;exact ⟨by rw [List.take_succ_cons,h1],by simp [h2]⟩
  ·cases h
theorem Uo {tp:TypeId} {v:Operand} {i n:Nat} {fs:Array Field} {f:Field} {g:Bool} (hop:o.op=.field tp v i) (hu:P.underlying tp=some (.struct fs)) (hf:fs[i]? = some f)
  (hg:(g=true∧Lj P f.type=some true∧szT P f.type=some n)∨(g=false∧Lj P f.type=some false∧n=1)) (hv:OdIn o v):C5 P o (fun run t s K=>xFd t s K (od v) g f.offset n):=by
 refine C9 (fun c e=>by rw [hop] at e;cases e) fun run t s K out h=>?_
 unfold xFd at h;rw [Aj] at h
 split at h
 ·rename_i cs e1
  obtain ⟨l,hl,h⟩:=Au h;obtain ⟨h1,h2⟩:=Sp _ _ _ hl;have real:∀(x':Cx) (a:Act),EnvR x' t a o→∃cs',a.eval v=.agg cs'∧VRL x' l ((cs'.toList.drop f.offset).take n):=fun x' a hF=>by
   have g:=Ai (a:=a) hF hv;rw [e1] at g;obtain ⟨p',q1,q2⟩:=g.aggI;exact ⟨p',q1,by rw [h1];exact (q2.drop _).take _⟩
  rcases hg with ⟨rfl,hag,hz⟩|⟨rfl,hag,rfl⟩
  ·have h:K (.agg ⟨l⟩) s=some out:=h;refine ⟨_,h,fun x' a w hF=>?_⟩;obtain ⟨cs',q1,q2⟩:=real x' a hF;refine ⟨.agg ((cs'.toList.drop f.offset).take n).toArray,?_,.agg q2⟩;have ha:=Kb hag hz;unfold Ea at ha
   cases hb:pureSem P (isAgg f.type) with
   | none=>rw [hb] at ha;cases ha
   | some b =>
    rw [hb] at ha
    cases b with
    | false=>cases ha
    | true =>
     have e1:=Aq _ _ hb w;have e2:=Aq _ _ (show pureSem P (sizeOf f.type)=some n from ha) w;have e3:cs'.extract f.offset (f.offset+n)=((cs'.toList.drop f.offset).take n).toArray:=by
      apply Array.toList_inj.1;simp [Array.toList_extract,List.extract_eq_take_drop]
     simp [execOp,hop,q1,Instr.field,run_underlying hu,hf,asAgg,part,e1,e2,e3]
  ·cases l with
   | nil=>cases h
   | cons u l =>
    have h:K u s=some out:=h;refine ⟨_,h,fun x' a w hF=>?_⟩;obtain ⟨cs',q1,q2⟩:=real x' a hF;obtain ⟨u',r1,r2⟩:=q2.get (i:=0) (v:=u) (by simp);refine ⟨u',?_,r2⟩;have ha:=M7 hag;unfold Eh at ha
    cases hb:pureSem P (isAgg f.type) with
    | none=>rw [hb] at ha;cases ha
    | some b =>
     rw [hb] at ha
     cases b with
     | true=>cases ha
     | false =>
      have e1:=Aq _ _ hb w;have e2:cs'[f.offset]? = some u':=by
       rw [List.getElem?_take] at r1;simp only [Nat.zero_lt_one,if_true,List.getElem?_drop,Nat.add_zero] at r1;rw [←Array.getElem?_toList];exact r1
      simp [execOp,hop,q1,Instr.field,run_underlying hu,hf,asAgg,part,e1,e2]
 ·cases h
theorem Xu (hd:∀c,o.op≠.defer c) (hs:∀cs b,o.op≠.select cs b) (hops:o.op.operands.toList.all okOd=true):C5 P o (fun run t s K=>xGn t s K P o):=by
 refine C9 hd fun run t s K out h=>?_;unfold xGn at h
 split at h
 ·rename_i v hv
  obtain ⟨hg,h⟩:=Bc h;rw [Bool.and_eq_true] at hg;refine ⟨v,h,fun x' a w hF=>⟨v,?_,Ct 6 v hg.1⟩⟩;have e:execOp a.eval o=execOp (ev1 t) o:=by
   refine execOp_congr o hs fun y hy=>?_;have hy':y∈o.op.operands.toList:=by simpa using hy
   have h1:=List.all_eq_true.1 hops y hy';have h2:=List.all_eq_true.1 hg.2 y hy';exact (Ai (a:=a) hF ⟨h1,hy'⟩).gnd_eq 6 h2
  rw [e];exact Aq _ _ hv w
 ·cases h
theorem A0w {c:Call} {v:Operand} {tp e:TypeId} {ts:List TypeId} (hop:o.op=.call c) (hc:c.callee=.builtin .len) (hargs:c.args.toList=[v]) (hts:c.argTypes.toList=tp::ts) (hu:P.underlying tp=some (.slice e)) (hv:OdIn o v) :
  C5 P o (fun run t s K=>xLs t s K (od v)):=by
 have ha:c.args=#[v]:=Array.toList_inj.1 (by rw [hargs]);have ht:c.argTypes[0]? = some tp:=by rw [←Array.getElem?_toList,hts];rfl
 refine C9 (fun c e=>by rw [hop] at e;cases e) fun run t s K out h=>?_
 unfold xLs at h;rw [Aj] at h;obtain ⟨ad,n,cc,e1,h⟩:=H4 h;refine ⟨_,h,fun x' a w hF=>⟨_,?_,.int _ _⟩⟩;have g:=Ai (a:=a) hF hv;rw [e1] at g;generalize hx:a.eval v=v' at g
 cases g with
 | snil=>simp [execOp,hop,resolve,hc,ha,invoke,builtin,Builtin.len_,ht,run_underlying hu,hx,goInt]
 | sl h1 h2 h3=>simp [execOp,hop,resolve,hc,ha,invoke,builtin,Builtin.len_,ht,run_underlying hu,hx,goInt]
end
end Go.Ev
namespace Go.Ev
open Go Go.Eng
set_option linter.unusedVariables false
section
variable {P:Program} {w0 w w':World} {s s':S} {H:Mem} {x:Cx} {o:Oper}
theorem Qm {ob:AObj} (ho:s.Ok):Stp s (s.nw ob)∧(s.nw ob).Ok:=by
 have hget:∀p,p≠s.c→(s.nw ob).get p=s.get p:=fun p hp=>Di _ _ hp;have hwf:s.Wf→(s.nw ob).Wf:=fun hw p hp=>by
  have hp:s.c+1≤p:=hp;rw [hget p (by omega)];exact hw p (by omega)
 refine ⟨⟨hwf,by show s.c≤s.c+1;omega,fun _ h=>h,fun _ h=>h,fun p hp _=>hget p (by omega),fun _ h=>.inl h,rfl⟩,⟨hwf ho.wf,fun p hp=>?_⟩⟩;have hp:s.W.testBit p=true:=hp;exact ⟨(ho.W p hp).1,by show p<s.c+1;have:=(ho.W p hp).2;omega⟩
theorem Ei {n:Nat} {ob:Option AObj} (ho:s.Ok) (hn:n<s.c):Stp s (s.wr n ob)∧(s.wr n ob).Ok:=by
 have hget:∀p,p≠n→(s.wr n ob).get p=s.get p:=fun p hp=>Di _ _ hp;have hwf:s.Wf→(s.wr n ob).Wf:=fun hw p hp=>by
  have hp:s.c≤p:=hp;rw [hget p (by omega)];exact hw p hp
 refine ⟨⟨hwf,Nat.le_refl _,Ah,Ah,fun p hp hW=>?_,fun p hp=>?_,rfl⟩,⟨hwf ho.wf,fun p hp=>?_⟩⟩
 ·refine hget p fun e=>?_;have hW:(s.W ||| 2 ^ n).testBit p=false:=hW;rw [Nat.testBit_or,Ce,e] at hW;simp at hW
 ·have hp:(s.W ||| 2 ^ n).testBit p=true:=hp;show s.W.testBit p=true∨(s.T ||| 2 ^ n).testBit p=true;rw [Nat.testBit_or,Bool.or_eq_true] at hp ⊢;rcases hp with q|q
  ·exact .inl q
  ·exact .inr (.inr q)
 ·have hp:(s.W ||| 2 ^ n).testBit p=true:=hp;show (s.T ||| 2 ^ n).testBit p=true∧p<s.c;rw [Nat.testBit_or,Bool.or_eq_true] at hp ⊢;rcases hp with q|q
  ·exact ⟨.inl (ho.W p q).1,(ho.W p q).2⟩
  ·refine ⟨.inr q,?_⟩;rw [Ce,decide_eq_true_eq] at q;omega
theorem N5 {ob:AObj} {rob:Obj} (ho:s.Ok) (hl:ob.lone=true) (hp:Pre P w0 s (s.nw ob) H x w)
  (hobj:∀y,x.le y→y.ρ s.c=some ⟨w.heap.size,0,none⟩→ObjR P y (w.alloc rob) s.c ob) :
  ∃y,x.to y s.c (s.nw ob).c∧y.ρ s.c=some ⟨w.heap.size,0,none⟩∧Rel P w0.heap.size y (Over s (s.nw ob) H) (w.alloc rob)∧Ext w0 (w.alloc rob):=by
 have hlt:s.c<(s.nw ob).c:=by show s.c<s.c+1;omega
 obtain ⟨f1,f2⟩:=hp.fresh s.c (Nat.le_refl _) (.inl hlt);have hto:=Cx.add_to (a:=⟨w.heap.size,0,none⟩) (z:=none) (k:=0) f1 f2 hlt;have hy:(x.add s.c ⟨w.heap.size,0,none⟩ none 0).ρ s.c=some ⟨w.heap.size,0,none⟩:=by simp [Cx.add]
 refine ⟨_,hto,hy,?_,Es hp.ext _⟩;exact Yy (hp.rel.keep (Gr w _)) ho.wf (hp.W ho (Qm ho).1) hl f1 f2 (fun p o' a h1 h2=>by have:=Jp hp.rel h1 h2;omega) hp.ext.size (hobj _ hto.le hy)
theorem Mx (w:World) (ob:Obj):(w.alloc ob).heap[w.heap.size]? = some ob:=by
 show (w.heap.push _)[w.heap.size]? = _;simp
theorem Tt {t:TypeId} (hop:o.op=.makeMap t none):C5 P o (fun run t' s K=>xMm s K):=by
 intro run fm s K out hr ho h;have h:s.nwK (.map [] 0) (K (.map (some s.c)))=some out:=h;rw [Tp] at h;obtain ⟨q1,q2⟩:=Qm (ob:=.map [] 0) ho;refine ⟨_,_,q1,q2,h,fun w0 H x w r act hp hF=>?_⟩;obtain ⟨y,y1,y2,y3,y4⟩:=N5 (rob:=.map #[] 0) ho rfl hp (fun y hy hs=>⟨w.heap.size,[],hs,Mx w _,.nil⟩);have hd:∀c,o.op≠.defer c:=fun c e=>by rw [hop] at e;cases e
 unfold OpZ;rw [Oper.semAt_eq r act.eval o hd];have hrun:(execOp act.eval o).run P w=.ok (.value (.map (some w.heap.size))) (w.alloc (.map #[] 0)):=by
  have hn:∀ob,(newObj ob).run P w=.ok w.heap.size (w.alloc ob):=fun _=>rfl;simp [execOp,hop,Instr.makeMap,hn]
 rw [hrun];exact ⟨y,y1,.map y2,y3,y4⟩
end
end Go.Ev
namespace Go.Ev
open Go Go.Eng
set_option linter.unusedVariables false
theorem Dm {P:Program} {α β:Type}:∀(s:Sem α) (f:α→Sem β),pureSem P (s >>= f)=(pureSem P s).bind fun a=>pureSem P (f a):=by
 intro s f;show pureSem P (Sem.bind s f)=_
 induction s with
 | pure a=>rfl
 | program k ih=>exact ih P
 | mark m k ih=>exact ih
 | _=>rfl
theorem Jj (d:TypeDesc) (k:Value):∀(es:List MapEntry) (i:Nat),Instr.findNow d k es i=(Instr.findNow d k (Jf es) i).map fun r=>r.map fun p=>(p.1,((es[p.1-i]?).map (·.val)).getD undef)
 | [],i=>rfl
 | e::es,i=>by
  unfold Jf Instr.findNow
  cases h:Instr.sameNow d k e.key with
  | none=>simp
  | some b =>
   cases b with
   | true=>simp
   | false =>
    simp only;rw [Jj d k es (i+1)]
    cases hq:Instr.findNow d k (Jf es) (i+1) with
    | none=>rfl
    | some r =>
     cases r with
     | none=>rfl
     | some p =>
      have hge:i+1≤p.1:=findNow_ge _ _ _ trivial hq;simp only [Option.map_some];rw [show p.1-i=(p.1-(i+1))+1 by omega,List.getElem?_cons_succ]
where findNow_ge:∀(es:List MapEntry) (i:Nat) (p:Nat×Value),True→Instr.findNow d k es i=some (some p)→i≤p.1
 | [],i,p,_,h=>by simp [Instr.findNow] at h
 | e::es,i,p,_,h=>by
  unfold Instr.findNow at h
  split at h
  ·cases h;exact Nat.le_refl _
  ·have:=findNow_ge es (i+1) p trivial h;omega
  ·cases h
theorem P9 {P:Program} (kt:TypeId) (k:Value):∀(es:List MapEntry) (i:Nat) (p:Nat×Value),pureSem P (Instr.findAsking kt k es i)=some (some p)→i≤p.1
 | [],i,p,h=>by simp [Instr.findAsking,pureSem,pure] at h
 | e::es,i,p,h=>by
  unfold Instr.findAsking at h;rw [Dm] at h
  cases hb:pureSem P (Op.equal kt k e.key) with
  | none=>rw [hb] at h;cases h
  | some b =>
   rw [hb] at h
   cases b with
   | true=>simp [pureSem,pure] at h;subst h;exact Nat.le_refl _
   | false=>have:=P9 kt k es (i+1) p (by simpa using h);omega
theorem L8 {P:Program} (kt:TypeId) (k:Value):∀(es:List MapEntry) (i:Nat),pureSem P (Instr.findAsking kt k es i)=(pureSem P (Instr.findAsking kt k (Jf es) i)).map fun r=>r.map fun p=>(p.1,((es[p.1-i]?).map (·.val)).getD undef)
 | [],i=>rfl
 | e::es,i=>by
  unfold Jf Instr.findAsking;rw [Dm,Dm]
  cases hb:pureSem P (Op.equal kt k e.key) with
  | none=>rfl
  | some b =>
   cases b with
   | true=>simp [pureSem,pure]
   | false =>
    simp only [Option.bind_some,Bool.false_eq_true,if_false];rw [L8 kt k es (i+1)]
    cases hq:pureSem P (Instr.findAsking kt k (Jf es) (i+1)) with
    | none=>rfl
    | some r =>
     cases r with
     | none=>rfl
     | some p =>
      have hge:i+1≤p.1:=P9 kt k _ _ _ hq;simp only [Option.map_some];rw [show p.1-i=(p.1-(i+1))+1 by omega,List.getElem?_cons_succ]
theorem Vg {P:Program} (kt:TypeId) (k:Value) (es:List MapEntry):pureSem P (Instr.findKey kt k es)=(pureSem P (Instr.findKey kt k (Jf es))).map fun r=>r.map fun p=>(p.1,((es[p.1]?).map (·.val)).getD undef):=by
 unfold Instr.findKey;rw [Dm,Dm]
 cases hu:pureSem P (underlying kt) with
 | none=>rfl
 | some d =>
  simp only [Option.bind_some];have h1:=Jj d k es 0
  cases hq:Instr.findNow d k (Jf es) 0 with
  | none =>
   rw [hq] at h1;rw [h1];simp only [Option.map_none];have:=L8 (P:=P) kt k es 0
   simpa using this
  | some r =>
   rw [hq] at h1;rw [h1]
   cases r with
   | none=>rfl
   | some p=>simp [pureSem,pure]
theorem U4 {x:Cx}:∀{es es':List MapEntry},A2 (ER x) es es'→Jf es'=Jf es
 | _,_,.nil=>rfl
 | _,_,.cons h t=>by unfold Jf;rw [h.key,U4 t]
theorem Dp {P:Program} {kt:TypeId} {em:Bool} {k:Value} {es es':List MapEntry} {x:Cx} {r:Option Nat} (h:Mq P kt em k es=some r) (he:A2 (ER x) es es') (w:World) :
  (Instr.checkKey em 10000 kt k).run P w=.ok () w∧(Instr.findKey kt k es').run P w=.ok (r.map fun i=>(i,((es'[i]?).map (·.val)).getD undef)) w:=by
 unfold Mq at h
 cases h1:pureSem P (Instr.checkKey em 10000 kt k) with
 | none=>rw [h1] at h;cases h
 | some u =>
  rw [h1] at h;refine ⟨Aq _ _ h1 w,?_⟩
  cases h2:pureSem P (Instr.findKey kt k (Jf es)) with
  | none=>rw [h2] at h;cases h
  | some q =>
   rw [h2] at h;have h3:=Vg (P:=P) kt k es';rw [U4 he,h2] at h3
   cases q with
   | none=>simp only [Option.some.injEq] at h;subst h;exact Aq _ _ h3 w
   | some p=>simp only [Option.some.injEq] at h;subst h;exact Aq _ _ h3 w
end Go.Ev
namespace Go.Ev
open Go Go.Eng
set_option linter.unusedVariables false
section
variable {P:Program} {w0 w w':World} {s s':S} {H:Mem} {x:Cx} {o:Oper}
theorem Xn {v i:Operand} {tp e:TypeId} {n z:Nat} (hop:o.op=.indexAddr tp v i) (hu:P.underlying tp=some (.array n e)) (hz:szT P e=some z) (hv:OdIn o v) (hi:OdIn o i) :
  C5 P o (fun run t s K=>xAr t s K (od v) (od i) n z):=by
 refine C9 (fun c e=>by rw [hop] at e;cases e) fun run t s K out h=>?_
 unfold xAr at h;rw [Aj] at h;have h:vP (t.v (od v)) (ia1 K s t (od i) n z)=some out:=h;obtain ⟨m,of,e1,h2⟩:=K4 h;unfold ia1 at h2;rw [Aj] at h2;obtain ⟨k,nn,e2,h3⟩:=Er h2;obtain ⟨j,rfl,h4⟩:=Lv h3;obtain ⟨hj,h5⟩:=Bc h4;rw [B9] at h5;rw [Nat.blt_eq] at hj;unfold szT at hz
 cases hinf:P.info? e with
 | none=>rw [hinf] at hz;cases hz
 | some inf =>
  rw [hinf] at hz;simp only [Option.map_some,Option.some.injEq] at hz;refine ⟨_,h5,fun x' a w hF=>?_⟩;have g1:=Ai (a:=a) hF hv;rw [e1] at g1;have g2:=Ai (a:=a) hF hi;rw [e2] at g2;obtain ⟨b,o',h1,h2⟩:=g1.ptrI;refine ⟨.pointer (some ⟨b,o'+(of+j*z),none⟩),?_,.ptr h1⟩;simp [execOp,hop,h2,g2.intI,Instr.indexAt,Instr.sureAddr,run_underlying hu,asIntOf,sizeOf,typeInfo,hinf,hz,Addr.add_lit,hj,Nat.add_assoc]
theorem Jg {t:Fm} {a:Act} (hF:EnvR x t a o) {ox:Option Operand} {d y n:Nat} (hok:∀y,ox=some y→OdIn o y) (h:bnd ((ox.map od).map t.v) d y=some n) :
  (ox=none∧n=d)∨∃k,ox.map a.eval=some (.int k (n:Int))∧n≤y:=by
 cases ox with
 | none=>simp only [Option.map_none,bnd,Option.some.injEq] at h;exact .inl ⟨rfl,h.symm⟩
 | some u =>
  right;have g:=Ai (a:=a) hF (hok u rfl);simp only [Option.map_some] at h ⊢;unfold bnd at h
  split at h
  ·rename_i e;cases e
  ·rename_i k n' e
   simp only [Option.some.injEq] at e;rw [e] at g
   cases hb:Nat.ble n' y with
   | false=>rw [hb] at h;cases h
   | true =>
    rw [hb] at h;simp only [cond_true,Option.some.injEq] at h;subst h;exact ⟨k,by rw [g.intI];rfl,Nat.le_of_ble_eq_true hb⟩
  ·cases h
theorem Ra {n cap m h lo:Nat} {vl vh vm:Option Value} (hm:(vm=none∧m=cap)∨∃k,vm=some (.int k (m:Int))∧m≤cap)
  (hh:(vh=none∧vm=none∧h=n)∨∃k,vh=some (.int k (h:Int))∧h≤m) (hl:(vl=none∧lo=0)∨∃k,vl=some (.int k (lo:Int))∧lo≤h) (w:World) :
  (Instr.sliceBounds true n cap vl vh vm).run P w=.ok (lo,h,m) w:=by
 rcases hm with ⟨rfl,rfl⟩|⟨k,rfl,hm⟩<;>rcases hh with ⟨rfl,h1,rfl⟩|⟨k1,rfl,hh⟩<;>rcases hl with ⟨rfl,rfl⟩|⟨k2,rfl,hl⟩<;>first|(cases h1;done)|simp [Instr.sliceBounds,Instr.sliceBound,asIntOf, *]
theorem Nl {tp e:TypeId} {z n cap m h lo:Nat} {ad:Option Addr} {vl vh vm:Option Value} (hu:P.underlying tp=some (.slice e)) (hz:szT P e=some z) (hm:(vm=none∧m=cap)∨∃k,vm=some (.int k (m:Int))∧m≤cap)
  (hh:(vh=none∧vm=none∧h=n)∨∃k,vh=some (.int k (h:Int))∧h≤m) (hl:(vl=none∧lo=0)∨∃k,vl=some (.int k (lo:Int))∧lo≤h) (w:World) :
  (Instr.sliceAt tp (.slice ad n cap) vl vh vm).run P w=.ok (.slice (if m=lo then ad else ad.map (·.add (lo*z))) (h-lo) (m-lo)) w:=by
 unfold szT at hz
 cases hinf:P.info? e with
 | none=>rw [hinf] at hz;cases hz
 | some inf =>
  rw [hinf] at hz;simp only [Option.map_some,Option.some.injEq] at hz;simp [Instr.sliceAt,Instr.slice,run_underlying hu,Ra hm hh hl,sizeOf,typeInfo,hinf,hz]
theorem Xw {tp e:TypeId} {z:Nat} {v:Operand} {lo hi mx:Option Operand} (hop:o.op=.slice tp v lo hi mx) (hu:P.underlying tp=some (.slice e)) (hz:szT P e=some z) (hmx:(mx.isNone||hi.isSome)=true)
  (hv:OdIn o v) (hl:∀y,lo=some y→OdIn o y) (hh:∀y,hi=some y→OdIn o y) (hm:∀y,mx=some y→OdIn o y):C5 P o (fun run t s K=>xSl t s K e z (od v) (lo.map od) (hi.map od) (mx.map od)):=by
 intro run t s K out hr ho h;have hd:∀c,o.op≠.defer c:=fun c e=>by rw [hop] at e;cases e
 have h:xSl t s K e z (od v) (lo.map od) (hi.map od) (mx.map od)=some out:=h;unfold xSl at h;rw [Aj] at h;obtain ⟨ad,l,c,e1,h⟩:=H4 h;obtain ⟨m,hm',h⟩:=Au h;obtain ⟨hi',hh',h⟩:=Au h;obtain ⟨lw,hl',h⟩:=Au h;obtain ⟨hle,h⟩:=Bc h;have hle:=Nat.le_of_ble_eq_true hle;have key:∀(x:Cx) (a:Act) (c':Nat),EnvR x t a o→c≤c'→∃m',(mx=none∧m=c∧m'=c'∨(mx.isSome=true∧m'=m∧m≤c))∧((mx.map a.eval=none∧m'=c')∨∃k,mx.map a.eval=some (.int k (m':Int))∧m'≤c') ∧
   ((hi.map a.eval=none∧mx.map a.eval=none∧hi'=l)∨∃k,hi.map a.eval=some (.int k (hi':Int))∧hi'≤m')∧((lo.map a.eval=none∧lw=0)∨∃k,lo.map a.eval=some (.int k (lw:Int))∧lw≤hi'):=by
  intro x a c' hF hc;have r3:(lo.map a.eval=none∧lw=0)∨∃k,lo.map a.eval=some (.int k (lw:Int))∧lw≤hi':=by
   rcases Jg hF hl hl' with ⟨q1,q2⟩|q
   ·exact .inl ⟨by rw [q1];rfl,q2⟩
   ·exact .inr q
  rcases Jg hF hm hm' with ⟨q1,q2⟩|⟨k,q1,q2⟩
  ·refine ⟨c',.inl ⟨q1,q2,rfl⟩,.inl ⟨by rw [q1];rfl,rfl⟩,?_,r3⟩;rcases Jg hF hh hh' with ⟨p1,p2⟩|⟨k,p1,p2⟩
   ·exact .inl ⟨by rw [p1];rfl,by rw [q1];rfl,p2⟩
   ·exact .inr ⟨k,p1,by omega⟩
  ·have hs:mx.isSome=true:=by cases mx with
    | none=>simp at q1
    | some _=>rfl
   refine ⟨m,.inr ⟨hs,rfl,q2⟩,.inr ⟨k,q1,by omega⟩,?_,r3⟩;rcases Jg hF hh hh' with ⟨p1,p2⟩|⟨k,p1,p2⟩
   ·rw [p1] at hmx
    cases mx with
    | none=>simp at hs
    | some _=>simp at hmx
   ·exact .inr ⟨k,p1,p2⟩
 have hlw:lw≤hi':=by
  cases lo with
  | none=>simp only [Option.map_none,bnd,Option.some.injEq] at hl';omega
  | some u =>
   simp only [Option.map_some] at hl';unfold bnd at hl'
   split at hl'
   ·rename_i e;cases e
   ·rename_i k n' e
    cases hb:Nat.ble n' hi' with
    | false=>rw [hb] at hl';cases hl'
    | true=>rw [hb] at hl';simp only [cond_true,Option.some.injEq] at hl';have:=Nat.le_of_ble_eq_true hb;omega
   ·cases hl'
 cases ad with
 | none =>
  have h:K (.slice none 0 0) s=some out:=h;refine ⟨_,s,Stp.refl s,ho,h,fun w0 H x w r a hp hF=>?_⟩;have g:=Ai (a:=a) hF hv;rw [e1] at g;generalize hx:a.eval v=v' at g
  cases g with
  | snil =>
   obtain ⟨m',k1,k2,k3,k4⟩:=key x a 0 hF (Nat.le_refl _);refine Ca (v:=.slice none 0 0) hd ?_ (hp.post0 ho .snil);have:=Nl (ad:=none) (n:=0) (cap:=0) hu hz k2 k3 k4 w;have hm0:m'=0:=by rcases k1 with ⟨_,_,q⟩|⟨_,q,q'⟩<;>omega
   have e0:m=0:=by rcases k1 with ⟨_,q,_⟩|⟨_,_,q⟩<;>omega
   have h1:hi'-lw=0:=by omega
   have h2:m'-lw=0:=by omega
   rw [h1,h2] at this;simp [execOp,hop,hx,this]
 | some ad =>
  obtain ⟨b,off,had,hq⟩:=J9 h;subst had
  clear h
  have h:=hq
  clear hq
  unfold sl1 at h
  split at h
  ·rename_i size e' gg hg
   obtain ⟨he,hq⟩:=Bc h
   clear h
   have he:=Nat.eq_of_beq_eq_true he;subst he;have h:=hq
   clear hq
   rw [B9,B9,B9,Kv] at h;have h:K (.slice (some ⟨b,Bool.rec (motive:=fun _=>Nat) (off+lw*z) off (Nat.beq m lw),none⟩) (hi'-lw) (m-lw)) (s.rd b)=some out:=h;refine ⟨_,_,Df Ah,F8 ho Ah,h,fun w0 H x w r a hp hF=>?_⟩;have hH:H b=some (.hd size e' gg):=by
    rw [←hg];exact hp.agree b (ho.wf.lt hg) (by show (s.T ||| 2 ^ b).testBit b=true;rw [Nat.testBit_or,Ce];simp)
   obtain ⟨b',o',nn,hρ,hrow,hsz,hz1,hz2⟩:=hp.rel.obj _ _ hH;have g:=Ai (a:=a) hF hv;rw [e1] at g;generalize hx:a.eval v=v' at g
   cases g with
   | sl h1 ho' hc =>
    rename_i b'' o'' o1 c'
    rw [hρ] at h1
    cases h1
    have hcc:c≤c':=by rcases hc with q|⟨_,_,_,q,_⟩<;>omega
    obtain ⟨m',k1,k2,k3,k4⟩:=key x a c' hF hcc;have hs:=Nl (ad:=some ⟨b',o1,none⟩) (n:=l) (cap:=c') hu hz k2 k3 k4 w;have hex:(execOp a.eval o).run P w=.ok (.value (.slice (if m'=lw then some ⟨b',o1,none⟩ else some ⟨b',o1+lw*z,none⟩) (hi'-lw) (m'-lw))) w:=by
     have e2:(Option.map (fun (q:Addr)=>q.add (lw*z)) (some ⟨b',o1,none⟩))=some ⟨b',o1+lw*z,none⟩:=by simp [Addr.add_lit]
     rw [e2] at hs;simp [execOp,hop,hx,hs]
    refine Ca hd hex (hp.rd Ah ho ?_);have hml:lw≤m:=by omega
    have hml':lw≤m':=by rcases k1 with ⟨_,q1,q2⟩|⟨_,q1,_⟩<;>omega
    have goal2:∀{oA oR:Nat},(oR=o'+oA∨(hi'-lw=0∧m-lw=0))→(m'-lw=m-lw∨∃sz en,x.z b=some (sz,en)∧m-lw≤m'-lw∧oR+(m'-lw)*sz=en)→VR x (.slice (some ⟨b,oA,none⟩) (hi'-lw) (m-lw)) (.slice (some ⟨b',oR,none⟩) (hi'-lw) (m'-lw)) :=
     fun q1 q2=>.sl hρ q1 q2
    by_cases hm1:m=lw
    ·have e3:Nat.beq m lw=true:=by rw [hm1];exact Nat.beq_refl _
     rw [e3];simp only
     by_cases hm2:m'=lw
     ·rw [if_pos hm2];exact goal2 (.inr ⟨by omega,by omega⟩) (.inl (by omega))
     ·rw [if_neg hm2];refine goal2 (.inr ⟨by omega,by omega⟩) ?_;rcases k1 with ⟨_,q1,q2⟩|⟨_,q1,_⟩
      ·rcases hc with q|⟨sz,en,z1,z2,z3⟩
       ·exact .inl (by omega)
       ·have:=(hz2 sz en z1).2;rw [hz] at this
        cases this
        refine .inr ⟨z,en,z1,by omega,?_⟩;subst q2;rw [Nat.add_assoc,←Nat.add_mul,show lw+(m'-lw)=m' by omega];exact z3
      ·omega
    ·have e3:Nat.beq m lw=false:=by
      cases hb:Nat.beq m lw with
      | false=>rfl
      | true=>exact absurd (Nat.eq_of_beq_eq_true hb) hm1
     rw [e3];simp only;have hm2:m'≠lw:=by rcases k1 with ⟨_,q1,q2⟩|⟨_,q1,_⟩<;>omega
     rw [if_neg hm2];have hmc:m≤c:=by rcases k1 with ⟨_,q1,q2⟩|⟨_,q1,q2⟩<;>omega
     refine goal2 ?_ ?_
     ·rcases ho' with q|q
      ·left;omega
      ·omega
     ·rcases k1 with ⟨_,q1,q2⟩|⟨_,q1,_⟩
      ·rcases hc with q|⟨sz,en,z1,z2,z3⟩
       ·exact .inl (by omega)
       ·have:=(hz2 sz en z1).2;rw [hz] at this
        cases this
        refine .inr ⟨z,en,z1,by omega,?_⟩;subst q2;rw [Nat.add_assoc,←Nat.add_mul,show lw+(m'-lw)=m' by omega];exact z3
      ·exact .inl (by omega)
  ·cases h
end
end Go.Ev
namespace Go.Ev
open Go Go.Eng
set_option linter.unusedVariables false
theorem N7:∀{vs cs r:List Value},over.overH vs cs=some r→vs.length≤cs.length∧r=vs++cs.drop vs.length
 | [],cs,r,h=>by simp only [over.overH,Option.some.injEq] at h;subst h;simp
 | v::vs,[],r,h=>by simp [over.overH] at h
 | v::vs,c::cs,r,h=>by
  unfold over.overH at h
  split at h
  ·rename_i q hq
   cases h
   obtain ⟨h1,h2⟩:=N7 hq;exact ⟨by simp only [List.length_cons];omega,by rw [h2];simp⟩
  ·cases h
theorem Pp:∀{o:Nat} {vs cs r:List Value},over vs o cs=some r→o+vs.length≤cs.length∧r=cs.take o++(vs++cs.drop (o+vs.length))
 | 0,vs,cs,r,h=>by
  have h:over.overH vs cs=some r:=by cases cs<;>exact h
  obtain ⟨h1,h2⟩:=N7 h;exact ⟨by omega,by rw [h2];simp⟩
 | o+1,vs,[],r,h=>by simp [over] at h
 | o+1,vs,c::cs,r,h=>by
  unfold over at h
  split at h
  ·rename_i q hq
   cases h
   obtain ⟨h1,h2⟩:=Pp hq;refine ⟨by simp only [List.length_cons];omega,?_⟩;rw [h2,show o+1+vs.length=(o+vs.length)+1 by omega];simp
  ·cases h
theorem Rm {off:Nat}:∀(l:List Value) (k:Nat) (A:Array Value),off+k+l.length≤A.size →
  ((l.zipIdx k).foldl (fun (cs:Array Value) (p:Value×Nat)=>cs.setIfInBounds (off+p.2) p.1) A).toList=A.toList.take (off+k)++(l++A.toList.drop (off+k+l.length))
 | [],k,A,h=>by simp
 | v::l,k,A,h=>by
  simp only [List.length_cons] at h;rw [List.zipIdx_cons,List.foldl_cons,Rm l (k+1) _ (by simp;omega)];have hk:off+k<A.toList.length:=by simp;omega
  have e:(A.setIfInBounds (off+k) v).toList=A.toList.take (off+k)++v::A.toList.drop (off+k+1):=by
   rw [Array.toList_setIfInBounds,List.set_eq_take_append_cons_drop,if_pos hk]
  rw [e];have hl:(A.toList.take (off+k)).length=off+k:=by rw [List.length_take];omega
  generalize A.toList.take (off+k)=B at hl ⊢;have t1:(B++v::A.toList.drop (off+k+1)).take (off+(k+1))=B++[v]:=by
   rw [List.take_append,List.take_of_length_le (l:=B) (by omega),show off+(k+1)-B.length=1 by omega];rfl
  have t2:(B++v::A.toList.drop (off+k+1)).drop (off+(k+1)+l.length)=A.toList.drop (off+k+(v::l).length):=by
   rw [List.drop_append,List.drop_of_length_le (l:=B) (by omega),show off+(k+1)+l.length-B.length=l.length+1 by omega];show (A.toList.drop (off+k+1)).drop l.length=_;rw [List.drop_drop]
   congr 1
   simp only [List.length_cons];omega
  rw [t1,t2];simp
theorem Vf {place:Nat→Option (Nat×Nat)} {A:Array Value} {i off size:Nat} {v:Value} {ps:List (Nat×Value)} (hp:place i=some (off,size)) (hs:v.cells.toList.length=size) (hb:off+size≤A.size) :
  Instr.fill place A ((i,v)::ps)=Instr.fill place (A.toList.take off++(v.cells.toList++A.toList.drop (off+size))).toArray ps:=by
 have hs':v.cells.size=size:=by rw [←hs];simp
 rw [Instr.fill];rw [hp];simp only;rw [if_neg (by simp [hs'];omega)]
 congr 1
 apply Array.toList_inj.1;have:=Rm (off:=off) v.cells.toList 0 A (by omega);simp only [Nat.add_zero] at this;have e3:v.cells.toList.zipIdx=v.cells.zipIdx.toList:=by simp
 rw [e3,Array.foldl_toList] at this;rw [←hs];exact this
structure PlR (o:Oper) (place:Nat→Option (Nat×Nat)) (p:Nat×Operand) (q:Nat×Nat×Od):Prop where
 at_:place p.1=some (q.1,q.2.1)
 od:q.2.2=od p.2
 ok:OdIn o p.2
theorem W2 (t:Fm) (p:Nat×Nat×Od) (ps:List (Nat×Nat×Od)) (cs:List Value) (K:List Value→Option Out) :
  Xz t (p::ps) cs K=t.K p.2.2 fun x=>oB (Nat.beq x.cells.toList.length p.2.1) (oO (over x.cells.toList p.1 cs) fun cs=>Xz t ps cs K):=rfl
theorem Kl {o:Oper} {place:Nat→Option (Nat×Nat)} {t:Fm}:∀{ps:List (Nat×Operand)} {l:List (Nat×Nat×Od)},A2 (PlR o place) ps l→∀{cs:List Value} {K:List Value→Option Out} {out:Out},Xz t l cs K=some out →
  ∃r,K r=some out∧r.length=cs.length∧∀(x:Cx) (a:Act) (A:Array Value),EnvR x t a o→VRL x cs A.toList→∃A',Instr.fill place A (ps.map fun p=>(p.1,a.eval p.2))=some A'∧VRL x r A'.toList
 | _,_,.nil,cs,K,out,h=>⟨cs,h,rfl,fun x a A hF hA=>⟨A,rfl,hA⟩⟩
 | p::ps,q::l,.cons hq hl,cs,K,out,h=>by
  rw [W2,Aj] at h;obtain ⟨h1,h⟩:=Bc h;obtain ⟨cs2,h2,h⟩:=Au h;obtain ⟨r,r1,r2,r3⟩:=Kl hl h;have h1:=Nat.eq_of_beq_eq_true h1;obtain ⟨b1,b2⟩:=Pp h2;refine ⟨r,r1,?_,fun x a A hF hA=>?_⟩
  ·rw [r2,b2];simp only [List.length_append,List.length_take,List.length_drop];omega
  ·have hv:=Ai (a:=a) hF hq.ok;rw [←hq.od] at hv;have hc:=hv.cells;have hlen:=hA.len;simp only [List.map_cons];have hsz:(a.eval p.2).cells.toList.length=q.2.1:=by rw [←hc.len];exact h1
   rw [Vf hq.at_ hsz (by rw [←h1,←Array.length_toList,←hlen];exact b1)];refine r3 x a _ hF ?_;rw [b2,←h1];exact (hA.take _).app (hc.app (hA.drop _))
theorem S9 (z:List Value):∀n,(Kw z n).length=n*z.length
 | 0=>by simp [Kw]
 | n+1=>by rw [Kw,List.length_append,S9 z n,Nat.add_mul];omega
theorem S8 (z:List Value):∀(n i:Nat),i<n*z.length→(Kw z n)[i]? = z[i%z.length]?
 | 0,i,h=>by simp at h
 | n+1,i,h=>by
  rw [Kw]
  by_cases hi:i<z.length
  ·rw [List.getElem?_append_left hi,Nat.mod_eq_of_lt hi]
  ·have h':i-z.length<n*z.length:=by rw [Nat.add_mul] at h;omega
   rw [List.getElem?_append_right (l₁:=z) (i:=i) (by omega),S8 z n _ h',←Nat.mod_eq_sub_mod (a:=i) (b:=z.length) (by omega)]
theorem Ps (z:Array Value) (n:Nat):((Array.range (n*z.size)).map (z[·%z.size]!)).toList=Kw z.toList n:=by
 apply List.ext_getElem?;intro i
 by_cases hi:i<n*z.size
 ·have hz:0<z.size:=by
   rcases Nat.eq_zero_or_pos z.size with q|q
   ·rw [q] at hi;simp at hi
   ·exact q
  have hm:=Nat.mod_lt i hz;rw [S8 z.toList n i (by simpa using hi)];simp [hi,getElem!_pos,hm]
 ·rw [List.getElem?_eq_none (by simp;omega),List.getElem?_eq_none (by rw [S9];simp;omega)]
theorem Qz {x:Cx} {z:List Value} (h:VRL x z z):∀n,VRL x (Kw z n) (Kw z n)
 | 0=>.nil
 | n+1=>h.app (Qz h n)
section
variable {P:Program} {w0 w w':World} {s s':S} {H:Mem} {x:Cx} {o:Oper}
theorem Xo {tp:TypeId} {ps:Array (Nat×Operand)} {z:Value} {l:List (Nat×Nat×Od)} (hop:o.op=.build tp ps) (hb:(P.built tp []).isSome=true) (hz:zrT P tp=some z) (hl:G7 P tp ps.toList=some l)
  (hps:∀p∈ps.toList,OdIn o p.2):C5 P o (fun run t s K=>xBd t s K z.cells.toList l):=by
 obtain ⟨inf,hi,hz,hg,hlen⟩:=Hn hz;have key:∃place,A2 (PlR o place) ps.toList l∧∀vs cs,Instr.fill place z.cells vs=some cs→P.built tp vs=some cs:=by
  unfold Program.built at hb;rw [hi] at hb
  cases hu:P.underlying tp with
  | none=>rw [hu] at hb;simp at hb
  | some d =>
   rw [hu] at hb
   cases d<;>try (simp at hb;done)
   case array n e =>
    cases hie:P.info? e with
    | none=>simp [hz,hie] at hb
    | some ie =>
     refine ⟨fun i=>some (i*ie.size,ie.size),?_,fun vs cs h=>by unfold Program.built;simp [hi,hu,hz,hie,h]⟩;have:∀(ps:List (Nat×Operand)) (l:List (Nat×Nat×Od)),G7 P tp ps=some l→(∀p∈ps,OdIn o p.2)→A2 (PlR o fun i=>some (i*ie.size,ie.size)) ps l:=by
      intro ps
      induction ps with
      | nil=>intro l h _;simp only [G7,Option.some.injEq] at h;subst h;exact .nil
      | cons p ps ih =>
       intro l h hk;obtain ⟨i,v⟩:=p;simp only [G7,hu,szT,hie,Option.map_some] at h
       split at h
       ·rename_i o' z' r q1 q2
        simp only [Option.some.injEq,Prod.mk.injEq] at q1;obtain ⟨rfl,rfl⟩:=q1
        cases h
        exact .cons ⟨rfl,rfl,hk _ (List.mem_cons_self ..)⟩ (ih _ q2 fun p hp=>hk p (List.mem_cons_of_mem _ hp))
       ·cases h
     exact this _ _ hl hps
   case struct fs =>
    cases hp:fs.toList.mapM (fun f=>(P.info? f.type).map fun i=>(f.offset,i.size)) with
    | none=>simp [hz,hp] at hb
    | some pl =>
     have hget:∀(fs:List Field) (pl:List (Nat×Nat)),fs.mapM (fun f=>(P.info? f.type).map fun i=>(f.offset,i.size))=some pl→∀(i:Nat) (f:Field),fs[i]? = some f→pl[i]? = (P.info? f.type).map fun i=>(f.offset,i.size):=by
      intro fs
      induction fs with
      | nil=>intro pl _ i f hf;simp at hf
      | cons f0 fs ih =>
       intro pl h i f hf;simp only [List.mapM_cons,Option.bind_eq_bind,Option.pure_def] at h
       cases hi0:P.info? f0.type with
       | none=>simp [hi0] at h
       | some i0 =>
        cases hr:fs.mapM (fun f=>(P.info? f.type).map fun i=>(f.offset,i.size)) with
        | none=>simp [hi0,hr] at h
        | some rest =>
         simp [hi0,hr] at h;subst h
         cases i with
         | zero=>simp at hf;subst hf;simp [hi0]
         | succ i=>simpa using ih rest hr i f (by simpa using hf)
     refine ⟨(pl.toArray[·]?),?_,fun vs cs h=>by unfold Program.built;simp only [hi,hu,hz,hp];exact h⟩;have:∀(ps:List (Nat×Operand)) (l:List (Nat×Nat×Od)),G7 P tp ps=some l→(∀p∈ps,OdIn o p.2)→A2 (PlR o (pl.toArray[·]?)) ps l:=by
      intro ps
      induction ps with
      | nil=>intro l h _;simp only [G7,Option.some.injEq] at h;subst h;exact .nil
      | cons p ps ih =>
       intro l h hk;obtain ⟨i,v⟩:=p;simp only [G7,hu] at h
       split at h
       ·rename_i o' z' r q1 q2
        cases h
        refine .cons ⟨?_,rfl,hk _ (List.mem_cons_self ..)⟩ (ih _ q2 fun p hp=>hk p (List.mem_cons_of_mem _ hp))
        cases hf:fs[i]? with
        | none=>rw [hf] at q1;simp at q1
        | some f =>
         rw [hf] at q1;simp only [Option.bind_some,szT,Option.map_map] at q1;have:=hget _ _ hp i f (by simpa using hf)
         cases hif:P.info? f.type with
         | none=>rw [hif] at q1;simp at q1
         | some fi =>
          rw [hif] at q1 this;simp only [Option.map_some,Function.comp,Option.some.injEq,Prod.mk.injEq] at q1 this;obtain ⟨rfl,rfl⟩:=q1
          simpa using this
       ·cases h
     exact this _ _ hl hps
 obtain ⟨place,k1,k2⟩:=key;refine C9 (fun c e=>by rw [hop] at e;cases e) fun run t s K out h=>?_
 unfold xBd at h;obtain ⟨r,r1,r2,r3⟩:=Kl k1 h;refine ⟨_,r1,fun x a w hF=>?_⟩;obtain ⟨A',q1,q2⟩:=r3 x a z.cells hF (Ct 6 z hg).cells;have hb:=k2 _ _ q1;refine ⟨.agg A',?_,.agg q2⟩;have:=run_build w tp (ps.map fun p=>(p.1,a.eval p.2)) A' (by simpa using hb);simp [execOp,hop,this]
theorem Gz {z:Nat}:∀{ps:List (Nat×Operand)},(∀p∈ps,OdIn o p.2)→A2 (PlR o fun k=>some (k*z,z)) ps (Fs z ps)
 | [],_=>.nil
 | (i,v)::ps,h=>by
  exact .cons ⟨rfl,rfl,h _ (List.mem_cons_self ..)⟩ (Gz fun p hp=>h p (List.mem_cons_of_mem _ hp))
theorem P0 {tp e:TypeId} {len sz:Nat} {ps:Array (Nat×Operand)} {v:Value} (hop:o.op=.buildSlice tp len ps) (hu:P.underlying tp=some (.slice e)) (hsz:szT P e=some sz) (hv:zrT P e=some v) (hps:∀p∈ps.toList,OdIn o p.2) :
  C5 P o (fun run t s K=>xBs t s K v.cells.toList len e (Fs sz ps.toList)):=by
 obtain ⟨inf,hi,hz,hg,hlen⟩:=Hn hv;have hsz':inf.size=sz:=by unfold szT at hsz;rw [hi] at hsz;simpa using hsz
 subst hsz';have hcs:v.cells.size=inf.size:=by rw [←hlen];simp
 intro run fm s K out hr ho h;have h:xBs fm s K v.cells.toList len e (Fs inf.size ps.toList)=some out:=h;unfold xBs at h;obtain ⟨hb,h⟩:=Bc h;obtain ⟨l,h,hll,hreal⟩:=Kl (Gz hps) h;rw [Fa] at h;obtain ⟨q1,q2⟩:=Dc (vs:=l) (e:=e) (g:=false) ho;refine ⟨_,_,q1,q2,h,fun w0 H x w r act hp hF=>?_⟩;obtain ⟨A',a1,a2⟩:=hreal x act ((Array.range (len*inf.size)).map (v.cells[·%v.cells.size]!)) hF (by rw [←hcs,Ps];exact Qz (Ct 6 v hg).cells len);obtain ⟨y,y1,y2,y3,y4⟩:=Lx ho hp a2;have hd:∀c,o.op≠.defer c:=fun c e=>by rw [hop] at e;cases e
 have hbc:D2 P tp len (ps.map fun p=>(p.1,act.eval p.2))=some (e,A'):=by
  unfold D2;rw [hlen] at hb;simp [hu,hi,hz,hb,a1]
 have hrun:=Gl (w:=w) hbc;have he:A'.toList.toArray=A':=by simp
 rw [he] at y3 y4;unfold OpZ;rw [Oper.semAt_eq r act.eval o hd];have hx:(execOp act.eval o).run P w=.ok (.value (.slice (some ⟨w.heap.size,0,none⟩) len len)) (w.alloc (.cells A' e)):=by
  have e2:w.alloc (.cells A' e)={ w with heap:=w.heap.push (.cells A' e) }:=rfl;rw [e2];simp [execOp,hop,hrun]
 rw [hx];exact ⟨y,y1,.sl y2 (.inl rfl) (.inl rfl),y3,y4⟩
theorem Xy {r:Option Nat} {a:Act} {R:Value→World→Prop} {v:Value} (hd:∀c,o.op≠.defer c) (h:(execOp a.eval o).run P w=.ok (.value v) w') (hR:R v w'):OpZ P r o a w R:=by
 unfold OpZ;rw [Oper.semAt_eq r a.eval o hd,h];exact hR
theorem Qo {tp e:TypeId} {l c:Operand} {v:Value} (hop:o.op=.makeSlice tp l c) (hu:P.underlying tp=some (.slice e)) (hby:(P.info? e).any (fun i=>Nat.ble i.bytes 1000000000)=true) (hv:zrT P e=some v) (hl:OdIn o l) (hc:OdIn o c) :
  C5 P o (fun run t s K=>xMk t s K v.cells.toList e (od l) (od c)):=by
 obtain ⟨inf,hi,hz,hg,hlen⟩:=Hn hv;have hcs:v.cells.size=inf.size:=by rw [←hlen];simp
 have hbytes:inf.bytes≤1000000000:=by rw [hi] at hby;exact Nat.le_of_ble_eq_true (by simpa using hby)
 intro run fm s K out hr ho h;have h:xMk fm s K v.cells.toList e (od l) (od c)=some out:=h;unfold xMk at h;rw [Aj,Aj] at h;obtain ⟨k1,n1,e1,h⟩:=Er h;obtain ⟨l',rfl,h⟩:=Lv h;obtain ⟨k2,n2,e2,h⟩:=Er h;obtain ⟨c',rfl,h⟩:=Lv h;obtain ⟨hb,h⟩:=Bc h;rw [Bool.and_eq_true] at hb;have hb1:=Nat.le_of_ble_eq_true hb.1;have hb2:=Nat.le_of_ble_eq_true hb.2;rw [Fa] at h;obtain ⟨q1,q2⟩:=Dc (vs:=Kw v.cells.toList c') (e:=e) (g:=false) ho;refine ⟨_,_,q1,q2,h,fun w0 H x w r act hp hF=>?_⟩;obtain ⟨y,y1,y2,y3,y4⟩:=Lx ho hp (Qz (Ct 6 v hg).cells c');have hd:∀c,o.op≠.defer c:=fun c e=>by rw [hop] at e;cases e
 have g1:=Ai (a:=act) hF hl;rw [e1] at g1;have g2:=Ai (a:=act) hF hc;rw [e2] at g2;have hmul:inf.bytes*c'≤1000000000*100000:=Nat.mul_le_mul hbytes hb2;have hrun:=run_make (P:=P) w tp e inf v hu hi hz k1 k2 (l':Int) (c':Int) (by omega) (by omega) (by
   have:((inf.bytes*c':Nat):Int)≤100000000000000:=by omega
   rw [Int.natCast_mul] at this;omega) (by omega)
 have he:madeCells v.cells ((c':Int).toNat*inf.size)=(Kw v.cells.toList c').toArray:=by
  apply Array.toList_inj.1;rw [Int.toNat_natCast,←hcs];exact Ps v.cells c'
 rw [he,Int.toNat_natCast,Int.toNat_natCast] at hrun;refine Xy hd ?_ ⟨y,y1,.sl y2 (.inl rfl) (.inl rfl),y3,y4⟩;simp [execOp,hop,g1.intI,g2.intI,hrun]
end
end Go.Ev
namespace Go.Ev
open Go Go.Eng
set_option linter.unusedVariables false
theorem Pi:∀(n:Nat) (v:Value),keyOk n v=true→gnd (n+1) v=true
 | n,.bool _,_=>rfl
 | n,.int _ _,_=>rfl
 | n,.string _,_=>rfl
 | n+1,.agg a,h=>by
  have h:a.toList.all (keyOk n)=true:=h;show a.toList.all (gnd (n+1))=true;rw [List.all_eq_true] at h ⊢;exact fun u hu=>Pi n u (h u hu)
 | 0,.agg a,h=>by simp [keyOk] at h
 | n,.float _ _,h=>by cases n<;>simp [keyOk] at h
 | n,.complex _ _ _,h=>by cases n<;>simp [keyOk] at h
 | n,.pointer _,h=>by cases n<;>simp [keyOk] at h
 | n,.slice _ _ _,h=>by cases n<;>simp [keyOk] at h
 | n,.map _,h=>by cases n<;>simp [keyOk] at h
 | n,.chan _,h=>by cases n<;>simp [keyOk] at h
 | n,.func _ _ _,h=>by cases n<;>simp [keyOk] at h
 | n,.nilFunc,h=>by cases n<;>simp [keyOk] at h
 | n,.iface _ _,h=>by cases n<;>simp [keyOk] at h
 | n,.nilIface,h=>by cases n<;>simp [keyOk] at h
 | n,.tuple _,h=>by cases n<;>simp [keyOk] at h
theorem My {x:Cx} {k k':Value} (h:VR x k k') (hk:keyOk 2 k=true):k'=k:=h.gnd_eq 3 (Pi 2 k hk)
theorem A2.len {α β:Type} {R:α→β→Prop}:∀{l:List α} {k:List β},A2 R l k→l.length=k.length
 | _,_,.nil=>rfl
 | _,_,.cons _ t=>by simp [t.len]
theorem A2.get {α β:Type} {R:α→β→Prop}:∀{l:List α} {k:List β},A2 R l k→∀{i:Nat} {a:α},l[i]? = some a→∃b,k[i]? = some b∧R a b
 | _,_,.nil,i,a,h=>by simp at h
 | _,_,.cons h t,0,a,ha=>by simp at ha;subst ha;exact ⟨_,by simp,h⟩
 | _,_,.cons h t,i+1,a,ha=>by simp at ha;obtain ⟨b,h1,h2⟩:=t.get ha;exact ⟨b,by simpa using h1,h2⟩
theorem A2.app {α β:Type} {R:α→β→Prop}:∀{l l':List α} {k k':List β},A2 R l k→A2 R l' k'→A2 R (l++l') (k++k')
 | _,_,_,_,.nil,h=>h
 | _,_,_,_,.cons h t,h'=>.cons h (t.app h')
theorem A2.modify {α β:Type} {R:α→β→Prop} {f:α→α} {g:β→β}:∀{l:List α} {k:List β},A2 R l k→∀(i:Nat),(∀a b,l[i]? = some a→k[i]? = some b→R a b→R (f a) (g b))→A2 R (l.modify i f) (k.modify i g)
 | _,_,.nil,i,_=>by simp;exact .nil
 | _,_,.cons h t,0,hf=>by simp only [List.modify_zero_cons];exact .cons (hf _ _ (by simp) (by simp) h) t
 | _,_,.cons h t,i+1,hf=>by simp only [List.modify_succ_cons];exact .cons h (t.modify i fun a b ha hb=>hf a b (by simpa using ha) (by simpa using hb))
theorem A2.erase {α β:Type} {R:α→β→Prop}:∀{l:List α} {k:List β},A2 R l k→∀(i:Nat),A2 R (l.eraseIdx i) (k.eraseIdx i)
 | _,_,.nil,i=>by simp;exact .nil
 | _,_,.cons h t,0=>t
 | _,_,.cons h t,i+1=>.cons h (t.erase i)
theorem Fi {s:S} {m:Value} {q:Nat×List MapEntry×Nat} (h:Td s m=some q):m=.map (some q.1)∧s.get q.1=some (.map q.2.1 q.2.2):=by
 unfold Td at h
 split at h
 ·split at h
  ·cases h;exact ⟨rfl,by assumption⟩
  ·cases h
 ·cases h
theorem Mm {w0 w:World} (h:Ext w0 w) {b:Nat} (hb:w0.heap.size≤b) (o:Obj):Ext w0 (w.putObj b o) :=
 RowKit.Below.trans h ⟨rfl,rfl,rfl,by simp [World.putObj],fun k hk=>World.putObj_heap_other (by omega)⟩
section
variable {P:Program} {w0 w w':World} {s s':S} {H:Mem} {x:Cx} {o:Oper}
theorem Fl {r:Nat} {es:List MapEntry} {ck:Nat} (hp:Pre P w0 s s' H x w) (ho:s.Ok) (hg:s.get r=some (.map es ck)) (hT:s'.T.testBit r=true) :
  ∃b es',x.ρ r=some ⟨b,0,none⟩∧w.heap[b]? = some (.map es'.toArray ck)∧A2 (ER x) es es'∧H r=some (.map es ck):=by
 have hH:H r=some (.map es ck):=by rw [←hg];exact hp.agree r (ho.wf.lt hg) hT
 obtain ⟨b,es',h1,h2,h3⟩:=hp.rel.obj _ _ hH;exact ⟨b,es',h1,h2,h3,hH⟩
theorem Vp {r:Nat} {v':Value} (h:VR x (.map (some r)) v'):∃b,x.ρ r=some ⟨b,0,none⟩∧v'=.map (some b):=by
 cases h with
 | map h=>exact ⟨_,h,rfl⟩
theorem Vy {tp kt e:TypeId} {z:Value} {m k:Operand} {ok:Bool} (hop:o.op=.lookup tp m k ok) (hu:P.underlying tp=some (.map kt e)) (hz:zrT P e=some z) (hm:OdIn o m) (hk:OdIn o k) :
  C5 P o (fun run t s K=>xLk t s K P kt z (od m) (od k) ok):=by
 have hd:∀c,o.op≠.defer c:=fun c e=>by rw [hop] at e;cases e
 obtain ⟨inf,hi,hz,hg,_⟩:=Hn hz;intro run t s K out hr ho h;have h:xLk t s K P kt z (od m) (od k) ok=some out:=h;unfold xLk at h;rw [Aj,Aj] at h;obtain ⟨hkey,h⟩:=Bc h
 split at h
 ·rename_i e1
  obtain ⟨i,hf,h⟩:=Au h
  cases i with
  | some i=>simp [lk1] at h;cases h
  | none =>
   have h:K (bif ok then .tuple #[z,.bool false] else z) s=some out:=h;refine ⟨_,s,Stp.refl s,ho,h,fun w0 H x w r a hp hF=>?_⟩;have g1:=Ai (a:=a) hF hm;rw [e1] at g1;have e2:=My (Ai (a:=a) hF hk) hkey;obtain ⟨r1,r2⟩:=Dp hf (A2.nil:A2 (ER x) [] []) w;generalize hx:a.eval m=v' at g1
   cases g1 with
   | mnil =>
    refine Ca (v:=bif ok then .tuple #[z,.bool false] else z) hd ?_ (hp.post0 ho ?_)
    ·cases ok<;>simp [execOp,hop,hx,e2,Instr.lookup,run_underlying hu,r1,r2,zeroValue,typeInfo,hi,hz]
    ·cases ok
     ·exact Ct 6 z hg
     ·exact .tuple (.cons (Ct 6 z hg) (.cons (.bool _) .nil))
 ·rename_i e1
  split at h
  ·rename_i r es ck hgm
   obtain ⟨e2,hgs⟩:=Fi hgm;simp only at e2 hgs;obtain ⟨i,hf,h⟩:=Au h;rw [Kv] at h;have fin:∃v,K v (s.rd r)=some out∧∀(es':List MapEntry) (x:Cx),A2 (ER x) es es'→∃v',VR x v v'∧v'=(bif ok then .tuple #[(match i with|some i=>((es'[i]?).map (·.val)).getD undef|none=>z),.bool i.isSome] else (match i with|some i=>((es'[i]?).map (·.val)).getD undef|none=>z)):=by
    cases i with
    | none =>
     refine ⟨_,h,fun es' x hA=>⟨_,?_,rfl⟩⟩
     cases ok
     ·exact Ct 6 z hg
     ·exact .tuple (.cons (Ct 6 z hg) (.cons (.bool _) .nil))
    | some i =>
     obtain ⟨e0,he0,h⟩:=Au h;refine ⟨_,h,fun es' x hA=>⟨_,?_,rfl⟩⟩;obtain ⟨e0',q1,q2⟩:=hA.get he0;simp only [q1,Option.map_some,Option.getD_some,Option.isSome_some]
     cases ok
     ·exact q2.val
     ·exact .tuple (.cons q2.val (.cons (.bool _) .nil))
   obtain ⟨v,h,hv⟩:=fin;refine ⟨v,_,Df Ah,F8 ho Ah,h,fun w0 H x w r' a hp hF=>?_⟩;obtain ⟨b,es',m1,m2,m3,_⟩:=Fl hp ho hgs (by show (s.T ||| 2 ^ r).testBit r=true;rw [Nat.testBit_or,Ce];simp);have g1:=Ai (a:=a) hF hm;rw [e2] at g1;obtain ⟨b',q1,q2⟩:=Vp g1;rw [m1] at q1;cases q1
   have e3:=My (Ai (a:=a) hF hk) hkey;obtain ⟨r1,r2⟩:=Dp hf m3 w;obtain ⟨v',p1,p2⟩:=hv es' x m3;have hem:es'.toArray.isEmpty=es.isEmpty:=by
    have:=m3.len
    cases es<;>cases es'<;>simp_all
   refine Ca (v:=v') hd ?_ (hp.rd Ah ho p1);subst p2
   cases i with
   | none=>cases ok<;>simp [execOp,hop,q2,e3,Instr.lookup,run_underlying hu,MapKept.run_getObj_map m2,hem,r1,r2,zeroValue,typeInfo,hi,hz]
   | some i=>cases ok<;>simp [execOp,hop,q2,e3,Instr.lookup,run_underlying hu,MapKept.run_getObj_map m2,hem,r1,r2,zeroValue,typeInfo,hi,hz]
  ·cases h
theorem L5 {r:Nat} {es es2:List MapEntry} {ck ck2:Nat} {v v':Value} {es2':List MapEntry} {b:Nat} (hp:Pre P w0 s (s.wr r (some (.map es2 ck2))) H x w) (ho:s.Ok) (hg:s.get r=some (.map es ck)) (hb:x.ρ r=some ⟨b,0,none⟩)
  (hbw:(w.heap[b]?).isSome=true) (hA:A2 (ER x) es2 es2') (hv:VR x v v'):Post P w0 s (s.wr r (some (.map es2 ck2))) v H x v' (w.putObj b (.map es2'.toArray ck2)):=by
 have hlt:=ho.wf.lt hg;obtain ⟨q1,q2⟩:=Ei (ob:=some (.map es2 ck2)) ho hlt;have hH:H r=some (.map es ck):=by
  rw [←hg];exact hp.agree r hlt (by show (s.T ||| 2 ^ r).testBit r=true;rw [Nat.testBit_or,Ce];simp)
 have hbs:b<w.heap.size:=by
  rcases Nat.lt_or_ge b w.heap.size with q|q
  ·exact q
  ·rw [Array.getElem?_eq_none q] at hbw;cases hbw
 refine ⟨x,x.to_refl _ _,hv,?_,Mm hp.ext (hp.rel.low _ _ _ hH hb) _⟩;refine V1 hp.rel ho.wf (fun p hpp=>(hp.W ho q1 p hpp).1) hH rfl rfl hb (fun c hc=>World.putObj_heap_other hc) ⟨b,es2',hb,World.putObj_heap_same hbs,hA⟩
theorem Dr {b:Nat} {es:Array MapEntry} {ck:Nat} (ob:Obj) (h:w.heap[b]? = some (.map es ck)):(setObj b ob).run P w=.ok () (w.putObj b ob):=MapKept.run_setObj_map ob h
theorem Zq {old k:Value} (h:Instr.sameBits 10000 old k=true):(Instr.keyThatStays old k).run P w=.ok k w:=by
 unfold Instr.keyThatStays;rw [if_pos h];rfl
theorem N6 {r:Option Nat} {a:Act} {R:Value→World→Prop} (hd:∀c,o.op≠.defer c) (h:(execOp a.eval o).run P w=.ok .skip w') (hR:R undef w'):OpZ P r o a w R:=by
 unfold OpZ;rw [Oper.semAt_eq r a.eval o hd,h];exact hR
theorem Jv {r:Option Nat} {a:Act} {R:Value→World→Prop} {v:Value} (hd:∀c,o.op≠.defer c) (h:(execOp a.eval o).run P w=.ok (.value v) w') (hR:R v w'):OpZ P r o a w R:=by
 unfold OpZ;rw [Oper.semAt_eq r a.eval o hd,h];exact hR
theorem Wz {k v v':Value} {b:Nat} (hk:keyOk 2 k=true) (hv:VR x v v'):ER x ⟨k,v,b⟩ ⟨k,v',b⟩:=⟨rfl,hk,hv,rfl⟩
theorem Uq (es:List MapEntry) (e:MapEntry):es.toArray.push e=(es++[e]).toArray:=by simp
theorem Kr (es:List MapEntry) (i:Nat) (f:MapEntry→MapEntry):es.toArray.modify i f=(es.modify i f).toArray:=by
 apply Array.toList_inj.1;simp
theorem Po {tp kt e:TypeId} {m k v:Operand} (hop:o.op=.mapUpdate tp m k v∨o.op=.insert tp m k v) (hu:P.underlying tp=some (.map kt e)) (hm:OdIn o m) (hk:OdIn o k) (hv:OdIn o v) :
  C5 P o (fun run t s K=>xMu t s K P kt (od m) (od k) (od v)):=by
 have hd:∀c,o.op≠.defer c:=fun c e=>by rcases hop with h|h<;>rw [h] at e<;>cases e
 have hex:∀(a:Act) (w w':World),(Instr.mapUpdate tp (a.eval m) (a.eval k) (a.eval v)).run P w=.ok () w'→(execOp a.eval o).run P w=.ok .skip w':=by
  intro a w w' h;rcases hop with h'|h'<;>simp [execOp,h',h]
 intro run t s K out hr ho h;have h:xMu t s K P kt (od m) (od k) (od v)=some out:=h;unfold xMu at h;rw [Aj,Aj,Aj] at h;obtain ⟨hkey,h⟩:=Bc h
 split at h
 ·rename_i r es ck hgm
  obtain ⟨e2,hgs⟩:=Fi hgm;simp only at e2 hgs;obtain ⟨i,hf,h⟩:=Au h;have hlt:=ho.wf.lt hgs;have real:∀{w0:World} {H:Mem} {x:Cx} {w:World} {r':Option Nat} {a:Act} {es2:List MapEntry} {ck2:Nat},Pre P w0 s (s.wr r (some (.map es2 ck2))) H x w→EnvR x t a o→∃b es',x.ρ r=some ⟨b,0,none⟩∧w.heap[b]? = some (.map es'.toArray ck)∧A2 (ER x) es es'∧a.eval m=.map (some b)∧a.eval k=t.v (od k) ∧
    (∀em,(Instr.checkKey em 10000 kt (t.v (od k))).run P w=.ok () w∨True):=by
   intro w0 H x w r' a es2 ck2 hp hF;obtain ⟨b,es',m1,m2,m3,_⟩:=Fl hp ho hgs (by show (s.T ||| 2 ^ r).testBit r=true;rw [Nat.testBit_or,Ce];simp);have g1:=Ai (a:=a) hF hm;rw [e2] at g1;obtain ⟨b',q1,q2⟩:=Vp g1;rw [m1] at q1;cases q1
   exact ⟨b,es',m1,m2,m3,q2,My (Ai (a:=a) hF hk) hkey,fun _=>.inr trivial⟩
  cases i with
  | some i =>
   obtain ⟨e0,he0,h⟩:=Au h;obtain ⟨hst,h⟩:=Bc h;unfold xWr at h;rw [Fh] at h;obtain ⟨q1,q2⟩:=Ei (ob:=some (.map (es.modify i fun e=>{ e with key:=t.v (od k),val:=t.v (od v) }) ck)) ho hlt;refine ⟨_,_,q1,q2,h,fun w0 H x w r' a hp hF=>?_⟩;obtain ⟨b,es',m1,m2,m3,m4,m5,_⟩:=real (r':=r') hp hF;obtain ⟨r1,r2⟩:=Dp hf m3 w;obtain ⟨e0',p1,p2⟩:=m3.get he0;have hkeep:(Instr.keyThatStays e0'.key (t.v (od k))).run P w=.ok (t.v (od k)) w:=by
    rw [p2.key];exact Zq hst
   refine N6 hd (hex a w _ ?_) (L5 hp ho hgs m1 (by rw [m2];rfl) (m3.modify (g:=fun e=>{ e with key:=t.v (od k),val:=a.eval v }) i fun e1 e2 _ _ hE=>⟨rfl,hkey,Ai hF hv,hE.born⟩) .undef);rw [←Kr];simp only [Option.map_some] at r2;simp [Instr.mapUpdate,m4,m5,run_underlying hu,MapKept.run_getObj_map m2,r1,r2,hkeep,Dr _ m2,p1]
  | none =>
   simp only at h;unfold xWr at h;rw [Fh] at h;obtain ⟨q1,q2⟩:=Ei (ob:=some (.map (es++[⟨t.v (od k),t.v (od v),ck⟩]) (ck+1))) ho hlt;refine ⟨_,_,q1,q2,h,fun w0 H x w r' a hp hF=>?_⟩;obtain ⟨b,es',m1,m2,m3,m4,m5,_⟩:=real (r':=r') hp hF;obtain ⟨r1,r2⟩:=Dp hf m3 w;refine N6 hd (hex a w _ ?_) (L5 hp ho hgs m1 (by rw [m2];rfl) (m3.app (.cons (Wz hkey (Ai hF hv)) .nil)) .undef);rw [←Uq];simp only [Option.map_none] at r2;simp [Instr.mapUpdate,m4,m5,run_underlying hu,MapKept.run_getObj_map m2,r1,r2,Dr _ m2]
 ·cases h
theorem Xq {tp kt e:TypeId} {z:Value} {m k:Operand} (hop:o.op=.mapEntry tp m k) (hu:P.underlying tp=some (.map kt e)) (hz:zrT P e=some z) (hm:OdIn o m) (hk:OdIn o k) :
  C5 P o (fun run t s K=>xMe t s K P kt z (od m) (od k)):=by
 have hd:∀c,o.op≠.defer c:=fun c e=>by rw [hop] at e;cases e
 obtain ⟨inf,hi,hz,hg,_⟩:=Hn hz;intro run t s K out hr ho h;have h:xMe t s K P kt z (od m) (od k)=some out:=h;unfold xMe at h;rw [Aj,Aj] at h;obtain ⟨hkey,h⟩:=Bc h
 split at h
 ·rename_i r es ck hgm
  obtain ⟨e2,hgs⟩:=Fi hgm;simp only at e2 hgs;obtain ⟨i,hf,h⟩:=Au h;have hlt:=ho.wf.lt hgs;have real:∀{w0:World} {H:Mem} {x:Cx} {w:World} {a:Act} {es2:List MapEntry} {ck2:Nat},Pre P w0 s (s.wr r (some (.map es2 ck2))) H x w→EnvR x t a o→∃b es',x.ρ r=some ⟨b,0,none⟩∧w.heap[b]? = some (.map es'.toArray ck)∧A2 (ER x) es es'∧a.eval m=.map (some b)∧a.eval k=t.v (od k):=by
   intro w0 H x w a es2 ck2 hp hF;obtain ⟨b,es',m1,m2,m3,_⟩:=Fl hp ho hgs (by show (s.T ||| 2 ^ r).testBit r=true;rw [Nat.testBit_or,Ce];simp);have g1:=Ai (a:=a) hF hm;rw [e2] at g1;obtain ⟨b',q1,q2⟩:=Vp g1;rw [m1] at q1;cases q1
   exact ⟨b,es',m1,m2,m3,q2,My (Ai (a:=a) hF hk) hkey⟩
  cases i with
  | some i =>
   obtain ⟨e0,he0,h⟩:=Au h;obtain ⟨hst,h⟩:=Bc h;unfold xWr at h;rw [Fh] at h;obtain ⟨q1,q2⟩:=Ei (ob:=some (.map (es.modify i fun e=>{ e with key:=t.v (od k) }) ck)) ho hlt;refine ⟨_,_,q1,q2,h,fun w0 H x w r' a hp hF=>?_⟩;obtain ⟨b,es',m1,m2,m3,m4,m5⟩:=real hp hF;obtain ⟨r1,r2⟩:=Dp hf m3 w;obtain ⟨e0',p1,p2⟩:=m3.get he0;have hgt:es'.toArray[i]? = some e0':=by simpa using p1
   have hkeep:(Instr.keyThatStays e0'.key (t.v (od k))).run P w=.ok (t.v (od k)) w:=by
    rw [p2.key];exact Zq hst
   refine Jv (v:=.tuple #[e0'.val,goInt e0'.born]) hd ?_ (L5 hp ho hgs m1 (by rw [m2];rfl) (m3.modify (g:=fun e=>{ e with key:=t.v (od k) }) i fun e1 e2 _ _ hE=>⟨rfl,hkey,hE.val,hE.born⟩)
    (.tuple (.cons p2.val (.cons (by rw [p2.born];exact .int _ _) .nil))))
   rw [←Kr];simp only [Option.map_some] at r2;simp [execOp,hop,Instr.mapEntry,m4,m5,run_underlying hu,MapKept.run_getObj_map m2,r1,r2,hkeep,Dr _ m2,p1]
  | none =>
   simp only at h;unfold xWr at h;rw [Fh] at h;obtain ⟨q1,q2⟩:=Ei (ob:=some (.map (es++[⟨t.v (od k),z,ck⟩]) (ck+1))) ho hlt;refine ⟨_,_,q1,q2,h,fun w0 H x w r' a hp hF=>?_⟩;obtain ⟨b,es',m1,m2,m3,m4,m5⟩:=real hp hF;obtain ⟨r1,r2⟩:=Dp hf m3 w;refine Jv (v:=.tuple #[z,goInt ck]) hd ?_ (L5 hp ho hgs m1 (by rw [m2];rfl) (m3.app (.cons (Wz hkey (Ct 6 z hg)) .nil)) (.tuple (.cons (Ct 6 z hg) (.cons (.int _ _) .nil))));rw [←Uq];simp only [Option.map_none] at r2;simp [execOp,hop,Instr.mapEntry,m4,m5,run_underlying hu,MapKept.run_getObj_map m2,r1,r2,Dr _ m2,zeroValue,typeInfo,hi,hz]
 ·cases h
theorem L9 {b:Int}:∀{es es':List MapEntry} {i j:Nat},A2 (ER x) es es'→Md b es i=some j→i≤j∧es'.findIdx? (fun e=>(e.born:Int)==b)=some (j-i)
 | _,_,i,j,.nil,h=>by simp [Md] at h
 | e::es,e'::es',i,j,.cons hE t,h=>by
  unfold Md at h;rw [List.findIdx?_cons,hE.born]
  cases hb:((e.born:Int)==b) with
  | true =>
   rw [hb] at h;simp only [cond_true,Option.some.injEq] at h;subst h;exact ⟨Nat.le_refl _,by simp⟩
  | false =>
   rw [hb] at h;simp only [cond_false] at h;obtain ⟨h1,h2⟩:=L9 t h;refine ⟨by omega,?_⟩;rw [h2];simp;omega
theorem P1 {tp:TypeId} {m i v:Operand} (hop:o.op=.entryStore tp m i v) (hm:OdIn o m) (hi:OdIn o i) (hv:OdIn o v):C5 P o (fun run t s K=>xEs t s K (od m) (od i) (od v)):=by
 have hd:∀c,o.op≠.defer c:=fun c e=>by rw [hop] at e;cases e
 intro run t s K out hr ho h;have h:xEs t s K (od m) (od i) (od v)=some out:=h;unfold xEs at h;rw [Aj,Aj,Aj] at h
 split at h
 ·rename_i r es ck kk b0 hgm e3
  obtain ⟨e2,hgs⟩:=Fi hgm;simp only at e2 hgs;have hlt:=ho.wf.lt hgs
  split at h
  ·rename_i j hj
   unfold xWr at h;rw [Fh] at h;obtain ⟨q1,q2⟩:=Ei (ob:=some (.map (es.modify j fun e=>{ e with val:=t.v (od v) }) ck)) ho hlt;refine ⟨_,_,q1,q2,h,fun w0 H x w r' a hp hF=>?_⟩;obtain ⟨b,es',m1,m2,m3,_⟩:=Fl hp ho hgs (by show (s.T ||| 2 ^ r).testBit r=true;rw [Nat.testBit_or,Ce];simp);have g1:=Ai (a:=a) hF hm;rw [e2] at g1;obtain ⟨b',p1,p2⟩:=Vp g1;rw [m1] at p1;cases p1
   have g2:=Ai (a:=a) hF hi;rw [e3] at g2;obtain ⟨_,hfi⟩:=L9 m3 hj;have hfi':es'.toArray.findIdx? (fun e=>(e.born:Int)==b0)=some j:=by simpa using hfi
   refine N6 hd ?_ (L5 hp ho hgs m1 (by rw [m2];rfl) (m3.modify (g:=fun e=>{ e with val:=a.eval v }) j fun e1 e2 _ _ hE=>⟨hE.key,hE.ok,Ai hF hv,hE.born⟩) .undef);rw [←Kr];simp [execOp,hop,Instr.entryStore,p2,g2.intI,MapKept.run_getObj_map m2,asInt,asIntOf,hfi,Dr _ m2]
  ·cases h
 ·cases h
def Vd (i:Option Nat) (es:List MapEntry):List MapEntry:=match i with|some i=>es.eraseIdx i|none=>es
theorem Vw {c:Call} {m k:Operand} {t1 kt e:TypeId} {ts:List TypeId} (hop:o.op=.call c) (hc:c.callee=.builtin .delete) (hargs:c.args.toList=[m,k]) (hts:c.argTypes.toList=t1::ts) (hu:P.underlying t1=some (.map kt e)) (hm:OdIn o m) (hk:OdIn o k) :
  C5 P o (fun run t s K=>xDl t s K P kt (od m) (od k)):=by
 have hd:∀c,o.op≠.defer c:=fun c e=>by rw [hop] at e;cases e
 have ha:c.args=#[m,k]:=Array.toList_inj.1 (by rw [hargs]);have ht:c.argTypes[0]? = some t1:=by rw [←Array.getElem?_toList,hts];rfl
 intro run t s K out hr ho h;have h:xDl t s K P kt (od m) (od k)=some out:=h;unfold xDl at h;rw [Aj,Aj] at h;obtain ⟨hkey,h⟩:=Bc h
 split at h
 ·rename_i r es ck hgm
  obtain ⟨e2,hgs⟩:=Fi hgm;simp only at e2 hgs;obtain ⟨i,hf,h⟩:=Au h;have hlt:=ho.wf.lt hgs;have h:xWr s K r (Vd i es) ck (.tuple #[])=some out:=by cases i<;>exact h
  unfold xWr at h;rw [Fh] at h;obtain ⟨q1,q2⟩:=Ei (ob:=some (.map (Vd i es) ck)) ho hlt;refine ⟨_,_,q1,q2,h,fun w0 H x w r' a hp hF=>?_⟩;obtain ⟨b,es',m1,m2,m3,_⟩:=Fl hp ho hgs (by show (s.T ||| 2 ^ r).testBit r=true;rw [Nat.testBit_or,Ce];simp);have g1:=Ai (a:=a) hF hm;rw [e2] at g1;obtain ⟨b',p1,p2⟩:=Vp g1;rw [m1] at p1;cases p1
  have e3:=My (Ai (a:=a) hF hk) hkey;obtain ⟨r1,r2⟩:=Dp hf m3 w;have hem:es'.toArray.isEmpty=es.isEmpty:=by
   have:=m3.len
   cases es<;>cases es'<;>simp_all
  have hA:A2 (ER x) (Vd i es) (Vd i es'):=by
   cases i with
   | none=>exact m3
   | some i=>exact m3.erase i
  refine Jv (v:=.tuple #[]) hd ?_ (L5 hp ho hgs m1 (by rw [m2];rfl) hA (.tuple .nil));have hera:∀i,es'.toArray.eraseIdxIfInBounds i=(es'.eraseIdx i).toArray:=fun i=>by apply Array.toList_inj.1;simp
  cases i with
  | none=>simp [execOp,hop,resolve,hc,ha,invoke,builtin,Builtin.delete_,ht,run_underlying hu,p2,e3,MapKept.run_getObj_map m2,hem,r1,r2,Dr _ m2,Vd]
  | some i=>simp [execOp,hop,resolve,hc,ha,invoke,builtin,Builtin.delete_,ht,run_underlying hu,p2,e3,MapKept.run_getObj_map m2,hem,r1,r2,Dr _ m2,hera,Vd]
 ·cases h
theorem Vx {c:Call} {v:Operand} {tp kt e:TypeId} {ts:List TypeId} (hop:o.op=.call c) (hc:c.callee=.builtin .len) (hargs:c.args.toList=[v]) (hts:c.argTypes.toList=tp::ts) (hu:P.underlying tp=some (.map kt e)) (hv:OdIn o v) :
  C5 P o (fun run t s K=>xLm t s K (od v)):=by
 have hd:∀c,o.op≠.defer c:=fun c e=>by rw [hop] at e;cases e
 have ha:c.args=#[v]:=Array.toList_inj.1 (by rw [hargs]);have ht:c.argTypes[0]? = some tp:=by rw [←Array.getElem?_toList,hts];rfl
 intro run t s K out hr ho h;have h:xLm t s K (od v)=some out:=h;unfold xLm at h;rw [Aj] at h
 split at h
 ·rename_i e1
  refine ⟨_,s,Stp.refl s,ho,h,fun w0 H x w r a hp hF=>?_⟩;have g:=Ai (a:=a) hF hv;rw [e1] at g;generalize hx:a.eval v=v' at g
  cases g with
  | mnil =>
   refine Ca (v:=goInt 0) hd ?_ (hp.post0 ho (.int _ _));simp [execOp,hop,resolve,hc,ha,invoke,builtin,Builtin.len_,ht,run_underlying hu,hx]
 ·rename_i r e1
  split at h
  ·rename_i es ck hgs
   rw [Kv,B9] at h;refine ⟨_,_,Df Ah,F8 ho Ah,h,fun w0 H x w r' a hp hF=>?_⟩;obtain ⟨b,es',m1,m2,m3,_⟩:=Fl hp ho hgs (by show (s.T ||| 2 ^ r).testBit r=true;rw [Nat.testBit_or,Ce];simp);have g1:=Ai (a:=a) hF hv;rw [e1] at g1;obtain ⟨b',p1,p2⟩:=Vp g1;rw [m1] at p1;cases p1
   refine Ca (v:=goInt es'.length) hd ?_ (hp.rd Ah ho (by rw [←m3.len];exact .int _ _));simp [execOp,hop,resolve,hc,ha,invoke,builtin,Builtin.len_,ht,run_underlying hu,p2,MapKept.run_getObj_map m2]
  ·cases h
 ·cases h
end
end Go.Ev
namespace Go.Ev
open Go Go.Eng
set_option linter.unusedVariables false
section
variable {P:Program} {w0 w w' w1:World} {s s' s1 s2:S} {H:Mem} {x y:Cx} {o:Oper} {v v':Value}
theorem Pre.next (h1:Stp s s1) (h2:Stp s1 s2) (ho1:s1.Ok) (hp:Pre P w0 s s2 H x w) (hy:x.to y s.c s1.c) (hr:Rel P w0.heap.size y (Over s s1 H) w1) (he:Ext w0 w1):Pre P w0 s1 s2 (Over s s1 H) y w1 :=
 ⟨hp.agree.second h1 h2,hp.fresh.second h1 h2 hy,hr,he,fun hm p hpc=>by
  unfold Over;have hc:=h1.c;rw [if_neg (fun q=>by
   rcases q with q|q
   ·omega
   ·have:=(ho1.W p q).2;omega)]
  exact hp.none (by rw [←h1.m];exact hm) p (by omega)⟩
theorem Pre.first (h1:Stp s s1) (h2:Stp s1 s2) (hp:Pre P w0 s s2 H x w):Pre P w0 s s1 H x w:=⟨hp.agree.first h1 h2,hp.fresh.first h1 h2,hp.rel,hp.ext,hp.none⟩
theorem Post.prev (h1:Stp s s1) (h2:Stp s1 s2) (hy:x.to y s.c s1.c) (h:Post P w0 s1 s2 v (Over s s1 H) y v' w'):Post P w0 s s2 v H x v' w':=by
 obtain ⟨z,z1,z2,z3,z4⟩:=h;refine ⟨z,Cx.to_trans hy z1 h1.c h2.c,z2,?_,z4⟩;rw [←Over.trans h1 h2];exact z3
theorem Up {T:Nat} (ho:s.Ok) (h:∀p,s.W.testBit p=true→H p=s.get p):Over s ⟨s.h,s.c,T,s.W,s.m⟩ H=H:=by
 have:=E6 ho h;exact this
theorem Pre.afterRd {T:Nat} (ho:s.Ok) (hT:∀p,s.T.testBit p=true→T.testBit p=true) (h2:Stp ⟨s.h,s.c,T,s.W,s.m⟩ s2) (hp:Pre P w0 s s2 H x w):Pre P w0 ⟨s.h,s.c,T,s.W,s.m⟩ s2 H x w:=by
 have h1:=Df (s:=s) hT;have e:=Up (T:=T) (H:=H) ho (fun p hpp=>(hp.W ho (h1.trans h2) p hpp).1);have:=hp.next h1 h2 (F8 ho hT) (x.to_refl _ _) (by rw [e];exact hp.rel) hp.ext;rw [e] at this;exact this
theorem Post.beforeRd {T:Nat} (ho:s.Ok) (hT:∀p,s.T.testBit p=true→T.testBit p=true) (h2:Stp ⟨s.h,s.c,T,s.W,s.m⟩ s2) (hp:Pre P w0 s s2 H x w) (h:Post P w0 ⟨s.h,s.c,T,s.W,s.m⟩ s2 v H x v' w'):Post P w0 s s2 v H x v' w':=by
 have h1:=Df (s:=s) hT;have e:=Up (T:=T) (H:=H) ho (fun p hpp=>(hp.W ho (h1.trans h2) p hpp).1);rw [←e] at h;exact h.prev h1 h2 (x.to_refl _ _)
theorem OpZ.mono {r:Option Nat} {a:Act} {R R':Value→World→Prop} (h:OpZ P r o a w R) (hr:∀v w',R v w'→R' v w'):OpZ P r o a w R':=by
 unfold OpZ at *;generalize (o.semAt r a.eval).run P w=res at *
 cases res with
 | ok x w' =>
  cases x<;>simp only at h ⊢<;>first|exact hr _ _ h|exact h.elim|skip
  case enter f args=>exact Calls.mono h (fun e w'' ⟨v,e1,e2⟩=>⟨v,e1,hr _ _ e2⟩)
  case round l f tmps assign body=>exact RoundIn.mono h (fun e w'' ⟨v,e1,e2⟩=>⟨v,e1,hr _ _ e2⟩)
 | halt x w'=>simp only at h
theorem Rel.less {N0:Nat} {H':Mem} (h:Rel P N0 x H w) (hl:∀p o,H' p=some o→H p=some o):Rel P N0 x H' w :=
 ⟨fun p o hp=>h.obj p o (hl p o hp),fun p q o o' a a' hp hq=>h.inj p q o o' a a' (hl p o hp) (hl q o' hq),fun p o a hp=>h.low p o a (hl p o hp)⟩
noncomputable def S.drop (s:S) (k m:Nat):S:=⟨Hw (k+1) m s.h,s.c,s.T ||| bits m (k+1),s.W ||| bits m (k+1),s.m⟩
theorem Wy {k m:Nat} (ho:s.Ok) (hm:m+k<s.c):Stp s (s.drop k m)∧(s.drop k m).Ok:=by
 have hget:∀p,(p<m∨m+(k+1)≤p)→(s.drop k m).get p=s.get p:=fun p hp=>Fw _ _ _ _ hp;have hwf:s.Wf→(s.drop k m).Wf:=fun hw p hp=>by
  have hp:s.c≤p:=hp;rw [hget p (by omega)];exact hw p hp
 refine ⟨⟨hwf,Nat.le_refl _,Ah,Ah,fun p hp hW=>?_,fun p hp=>?_,rfl⟩,⟨hwf ho.wf,fun p hp=>?_⟩⟩
 ·have hW:(s.W ||| bits m (k+1)).testBit p=false:=hW;simp only [Nat.testBit_or,Ba,Bool.or_eq_false_iff,decide_eq_false_iff_not] at hW;exact hget p (by omega)
 ·have hp:(s.W ||| bits m (k+1)).testBit p=true:=hp;show s.W.testBit p=true∨(s.T ||| bits m (k+1)).testBit p=true;rw [Nat.testBit_or,Bool.or_eq_true] at hp ⊢;rcases hp with q|q
  ·exact .inl q
  ·exact .inr (.inr q)
 ·have hp:(s.W ||| bits m (k+1)).testBit p=true:=hp;show (s.T ||| bits m (k+1)).testBit p=true∧p<s.c;rw [Nat.testBit_or,Bool.or_eq_true] at hp ⊢;rcases hp with q|q
  ·exact ⟨.inl (ho.W p q).1,(ho.W p q).2⟩
  ·refine ⟨.inr q,?_⟩;rw [Ba,decide_eq_true_eq] at q;omega
theorem Pd {k m:Nat} (hW:∀p,s.W.testBit p=true→H p=s.get p):∀p,Over s (s.drop k m) H p=if m≤p∧p<m+(k+1) then none else H p:=by
 intro p;unfold Over
 by_cases h:m≤p∧p<m+(k+1)
 ·rw [if_pos h,if_pos]
  ·exact Pc _ _ _ _ h.1 h.2
  ·right;show (s.W ||| bits m (k+1)).testBit p=true;rw [Nat.testBit_or,Ba,Bool.or_eq_true];exact .inr (by simpa using h)
 ·rw [if_neg h]
  by_cases hc:(s.c≤p∧p<(s.drop k m).c)∨(s.drop k m).W.testBit p=true
  ·rw [if_pos hc];rcases hc with hc|hc
   ·have:p<s.c:=hc.2;omega
   ·have hc:(s.W ||| bits m (k+1)).testBit p=true:=hc;rw [Nat.testBit_or,Ba,Bool.or_eq_true] at hc;rcases hc with hc|hc
    ·rw [hW p hc];exact Fw _ _ _ _ (by omega)
    ·exact absurd (by simpa using hc) h
  ·rw [if_neg hc]
theorem Wx {N0 k m:Nat} (hW:∀p,s.W.testBit p=true→H p=s.get p) (hR:Rel P N0 x H w):Rel P N0 x (Over s (s.drop k m) H) w :=
 hR.less fun p o hp=>by
  rw [Pd hW] at hp
  split at hp
  ·cases hp
  ·exact hp
structure SrcR (w:World) (z n:Nat) (v:Value) (l:List Value):Prop where
 is:(v=.slice none 0 0∧n=0∧l=[])∨∃b o c,v=.slice (some ⟨b,o,none⟩) n c∧l.length=n*z∧∀j u,l[j]? = some u→w.cell? ⟨b,o+j,none⟩=some u
theorem SrcR.len {z n:Nat} {l:List Value} (h:SrcR w z n v l):l.length=n*z:=by
 rcases h.is with ⟨_,rfl,rfl⟩|⟨_,_,_,_,h,_⟩
 ·simp
 ·exact h
theorem SrcR.cells {z n:Nat} {l:List Value} (h:SrcR w z n v l) (hk:∀a,w'.cell? a=w.cell? a):(Builtin.firstCells z n v).run P w'=.ok l.toArray w':=by
 rcases h.is with ⟨rfl,rfl,rfl⟩|⟨b,o,c,rfl,h1,h2⟩
 ·exact run_firstCells_none _ _ _ _ _
 ·exact run_firstCells_some (P:=P) w' z n ⟨b,o,none⟩ n c l h1 (fun j u hj=>by rw [Addr.add_lit,hk];exact h2 j u hj)
theorem SrcR.lenOf {z n:Nat} {l:List Value} (h:SrcR w z n v l):Builtin.lenOf v=pure n:=by
 rcases h.is with ⟨rfl,rfl,_⟩|⟨b,o,c,rfl,_,_⟩<;>rfl
theorem Wb {z:Nat} {xv:Value} {K:Nat→List Value→S→Option Out} {out:Out} (ho:s.Ok) (h:A16 s z xv K=some out) :
  ∃n src T,K n src ⟨s.h,s.c,T,s.W,s.m⟩=some out∧(∀p,s.T.testBit p=true→T.testBit p=true)∧src.length=n*z ∧
   ∀s2,Stp ⟨s.h,s.c,T,s.W,s.m⟩ s2→∀(w0:World) (H:Mem) (x:Cx) (w:World) (v':Value),Pre P w0 s s2 H x w→VR x xv v'→∃l,SrcR w z n v' l∧VRL x src l:=by
 unfold A16 at h;obtain ⟨ad,n,c,e0,hq⟩:=H4 h
 clear h
 subst e0
 cases ad with
 | none =>
  obtain ⟨hn,h⟩:=Bc hq
  clear hq
  have hn:=Nat.eq_of_beq_eq_true hn;subst hn;refine ⟨0,[],s.T,h,fun p hp=>hp,by simp,fun s2 hs w0 H x w v' hp hv=>?_⟩
  cases hv with
  | snil=>exact ⟨[],⟨.inl ⟨rfl,rfl,rfl⟩⟩,.nil⟩
 | some ad =>
  obtain ⟨m,off,e0,h⟩:=J9 hq
  clear hq
  subst e0;rw [B9,Gt] at h;obtain ⟨src,hl,h⟩:=Au h;rw [Jx] at h;obtain ⟨hlen,hget⟩:=Bo hl;refine ⟨n,src,s.T ||| bits (m+1+off) (n*z),h,Ah,hlen,fun s2 hs w0 H x w v' hp hv=>?_⟩;have hA:∀p,m+1+off≤p→p<m+1+off+n*z→H p=s.get p:=by
   intro p h1 h2;obtain ⟨j,rfl⟩:∃j,p=m+1+off+j:=⟨p-(m+1+off),by omega⟩;have hj:j<src.length:=by omega
   exact hp.agree _ (ho.wf.lt (hget j src[j] (List.getElem?_eq_getElem hj))) (hs.T _ (by
    show (s.T ||| bits (m+1+off) (n*z)).testBit _=true;rw [Nat.testBit_or,Ba,Bool.or_eq_true];right;simp;omega))
  cases hv with
  | sl h1 ho' hc =>
   rename_i b o' o'' c'
   obtain ⟨l',q1,q2,q3⟩:=D0 hp.rel hl hA h1;refine ⟨l',⟨.inr ⟨b,o'',c',rfl,q2,fun j u hj=>?_⟩⟩,q1⟩;rcases ho' with q|⟨q,_⟩
   ·rw [q];exact (q3 j u hj).1
   ·rw [q] at q2;simp at q2;subst q2;simp at hj
theorem Z2 {c:Call} {d sr:Operand} {t1 e:TypeId} {ts:List TypeId} {z:Nat} (hop:o.op=.call c) (hc:c.callee=.builtin .copy) (hargs:c.args.toList=[d,sr]) (hts:c.argTypes.toList=t1::ts) (hu:P.underlying t1=some (.slice e)) (hz:szT P e=some z)
  (hd':OdIn o d) (hs':OdIn o sr):C5 P o (fun run t s K=>xCp t s K z (od d) (od sr)):=by
 have hd:∀c,o.op≠.defer c:=fun c e=>by rw [hop] at e;cases e
 have ha:c.args=#[d,sr]:=Array.toList_inj.1 (by rw [hargs]);have ht:c.argTypes[0]? = some t1:=by rw [←Array.getElem?_toList,hts];rfl
 obtain ⟨inf,hinf,hsz⟩:∃inf,P.info? e=some inf∧inf.size=z:=by
  unfold szT at hz
  cases hi:P.info? e with
  | none=>rw [hi] at hz;cases hz
  | some inf=>rw [hi] at hz;exact ⟨inf,rfl,by simpa using hz⟩
 intro run t s K out hr ho h;have h:xCp t s K z (od d) (od sr)=some out:=h;unfold xCp at h;rw [Aj,Aj] at h
 split at h
 ·rename_i a ao l lc b bo m mc e1 e2
  rw [B9,B9,Gt] at h;obtain ⟨src,hl,h⟩:=Au h;rw [Jx,L1] at h;obtain ⟨s',hst,h⟩:=Au h;have ho1:S.Ok (s.rds (b+1+bo) (Nat.min m l*z)):=F8 ho Ah;obtain ⟨q1,q2,q3,q4,old,q5⟩:=L2 ho1 hst;have hstp:Stp s s':=(Df Ah).trans q1;refine ⟨_,s',hstp,q2,h,fun w0 H x w r act hp hF=>?_⟩;have hp1:Pre P w0 (s.rds (b+1+bo) (Nat.min m l*z)) s' H x w:=Pre.afterRd ho Ah q1 hp;refine OpZ.mono ?_ (fun v w' hq=>Post.beforeRd ho Ah q1 hp hq);have g2:=Ai (a:=act) hF hs';rw [e2] at g2;have g1:=Ai (a:=act) hF hd';rw [e1] at g1;generalize hx2:act.eval sr=v2 at g2;generalize hx1:act.eval d=v1 at g1
  cases g2 with
  | sl h1 ho' hc' =>
   rename_i b' o' o1 c'
   obtain ⟨hlen,hget⟩:=Bo hl;obtain ⟨l',p1,p2,p3⟩:=D0 hp.rel hl (fun p k1 k2=>by
    obtain ⟨j,rfl⟩:∃j,p=b+1+bo+j:=⟨p-(b+1+bo),by omega⟩;have hj:j<src.length:=by omega
    exact hp.agree _ (ho.wf.lt (hget j src[j] (List.getElem?_eq_getElem hj))) (q1.T _ (by
     show (s.T ||| bits (b+1+bo) (Nat.min m l*z)).testBit _=true;rw [Nat.testBit_or,Ba,Bool.or_eq_true];right;simp;omega))) h1
   cases g1 with
   | sl k1 ko kc =>
    rename_i d' od' od1 cd'
    obtain ⟨hlen5,hget5⟩:=Bo q5;have hT:∀p,a+1+ao≤p→p<a+1+ao+Nat.min m l*z→s'.T.testBit p=true:=by
     intro p r1 r2;unfold S.store at hst;rw [q5] at hst;simp only at hst;rw [show (Nat.beq src.length (Nat.min m l*z)&&src.all Value.oneCell')=true by rw [q4,q3];simp] at hst;simp only [cond_true,Option.some.injEq] at hst;subst hst;simp only [Nat.testBit_or,Ba,Bool.or_eq_true,decide_eq_true_eq];exact .inr ⟨r1,r2⟩
    have hA:∀p,a+1+ao≤p→p<a+1+ao+Nat.min m l*z→H p=(s.rds (b+1+bo) (Nat.min m l*z)).get p:=by
     intro p r1 r2;obtain ⟨j,rfl⟩:∃j,p=a+1+ao+j:=⟨p-(a+1+ao),by omega⟩;have hj:j<old.length:=by omega
     exact hp1.agree _ (ho1.wf.lt (hget5 j old[j] (List.getElem?_eq_getElem hj))) (hT _ (by omega) (by omega))
    have hrel:=J7 hp1.rel ho1.wf hst hA (fun p hpp=>(hp1.W ho1 q1 p hpp).1) p1 k1;obtain ⟨old',r1,r2,r3⟩:=D0 hp1.rel q5 hA k1;have hln:l'.length=Nat.min m l*z:=p2;have haddr:Nat.min m l*z=0∨od1=od'+ao:=by
     rcases ko with q|⟨q,_⟩
     ·exact .inr q
     ·left;rw [q];simp
    have haddr2:Nat.min m l*z=0∨o1=o'+bo:=by
     rcases ho' with q|⟨q,_⟩
     ·exact .inr q
     ·left;rw [q];simp
    have hst2:(storeCells ⟨d',od1,none⟩ l').run P w=.ok () (w.setCells d' (od'+ao) l'):=by
     rcases haddr with q|q
     ·have:l'=[]:=List.eq_nil_of_length_eq_zero (by omega);rw [this];simp [storeCells,World.setCells]
     ·rw [q];have:=run_storeCells_cells (P:=P) d' (od'+ao) l' 0 w (fun j hj=>by
       have hj':j<old'.length:=by omega
       simp only [Nat.add_zero];rw [(r3 j old'[j] (List.getElem?_eq_getElem hj')).1];rfl) (fun j hj=>by
       have hj':j<old'.length:=by omega
       simp only [Nat.add_zero];exact (r3 j old'[j] (List.getElem?_eq_getElem hj')).2) (Ju p1 q4)
      simpa using this
    have hfc:(Builtin.firstCells z (Nat.min m l) (.slice (some ⟨b',o1,none⟩) m c')).run P w=.ok l'.toArray w:=by
     refine run_firstCells_some (P:=P) w z (Nat.min m l) ⟨b',o1,none⟩ m c' l' hln (fun j u hj=>?_);rcases haddr2 with q|q
     ·have:l'=[]:=List.eq_nil_of_length_eq_zero (by omega);rw [this] at hj;simp at hj
     ·rw [Addr.add_lit,q];exact (p3 j u hj).1
    have hext:Ext w0 (w.setCells d' (od'+ao) l'):=by
     by_cases hn:l'=[]
     ·rw [hn];exact hp.ext
     ·have hj:0<old.length:=by
       have:0<l'.length:=by cases l'<;>simp at hn ⊢
       omega
      have hH:=hA (a+1+ao+0) (by omega) (by omega);have hcc:=hget5 0 old[0] (List.getElem?_eq_getElem hj);rw [show (s.rds (b+1+bo) (Nat.min m l*z)).h.g (pn (a+1+ao+0))=(s.rds (b+1+bo) (Nat.min m l*z)).get (a+1+ao+0) from rfl] at hcc;rw [hcc] at hH;exact Dw (hp.rel.low _ _ _ hH k1) _ _ _ hp.ext
    refine Jv (v:=goInt (Nat.min m l:Nat)) hd ?_ ⟨x,x.to_refl _ _,.int _ _,hrel,hext⟩;simp only [execOp,hop,resolve,hc,ha,invoke,builtin];simp [Builtin.copy_,ht,run_underlying hu,Builtin.lenOf,sizeOf,typeInfo,hinf,hsz,hx1,hx2];rw [hfc];simp [hst2]
 ·rename_i cap ad m mc e1 e2
  have h:K (goInt 0) s=some out:=h;refine ⟨_,s,Stp.refl s,ho,h,fun w0 H x w r act hp hF=>?_⟩;have g2:=Ai (a:=act) hF hs';rw [e2] at g2;have g1:=Ai (a:=act) hF hd';rw [e1] at g1;generalize hx2:act.eval sr=v2 at g2;generalize hx1:act.eval d=v1 at g1;refine Ca (v:=goInt 0) hd ?_ (hp.post0 ho (.int _ _));have hmin:∀q:Nat,Nat.min q 0=0:=fun q=>Nat.min_zero q
  cases g1 with
  | snil =>
   cases g2 with
   | snil=>simp [execOp,hop,resolve,hc,ha,invoke,builtin,Builtin.copy_,ht,run_underlying hu,Builtin.lenOf,sizeOf,typeInfo,hinf,hx1,hx2,run_firstCells_none]
   | sl h1 h2 h3=>simp [execOp,hop,resolve,hc,ha,invoke,builtin,Builtin.copy_,ht,run_underlying hu,Builtin.lenOf,sizeOf,typeInfo,hinf,hx1,hx2,Builtin.firstCells,loadCells,loadCellsFrom,hmin]
 ·rename_i ad l lc cap e1 e2
  have h:K (goInt 0) s=some out:=h;refine ⟨_,s,Stp.refl s,ho,h,fun w0 H x w r act hp hF=>?_⟩;have g2:=Ai (a:=act) hF hs';rw [e2] at g2;have g1:=Ai (a:=act) hF hd';rw [e1] at g1;generalize hx2:act.eval sr=v2 at g2;generalize hx1:act.eval d=v1 at g1;refine Ca (v:=goInt 0) hd ?_ (hp.post0 ho (.int _ _));have hmin:∀q:Nat,Nat.min 0 q=0:=fun q=>Nat.zero_min q
  cases g2 with
  | snil =>
   cases g1 with
   | sl h1 h2 h3=>simp [execOp,hop,resolve,hc,ha,invoke,builtin,Builtin.copy_,ht,run_underlying hu,Builtin.lenOf,sizeOf,typeInfo,hinf,hx1,hx2,run_firstCells_none,storeCells,hmin]
 ·cases h
end
end Go.Ev
namespace Go.Ev
open Go Go.Eng
set_option linter.unusedVariables false
section
variable {P:Program} {w0 w w' w1:World} {s s' s1 s2:S} {H:Mem} {x y:Cx} {o:Oper} {v v':Value}
theorem ObjR.block {p:Nat} {ob:AObj} (h:ObjR P x w p ob) (hb:∀a,x.ρ (ownOf p ob)=some a→w'.heap[a.block]? = w.heap[a.block]?):ObjR P x w' p ob:=by
 cases ob with
 | hd size e g =>
  obtain ⟨b,o,n,h1,h2,h3⟩:=h;have hk:=hb _ h1;simp only at hk;exact ⟨b,o,n,h1,⟨by have:=h2.shape;unfold World.shape? at this ⊢;rw [hk];exact this,fun off=>by have:=h2.free off;unfold World.frozen? at this ⊢;simp only at this ⊢;rw [hk];exact this⟩,h3⟩
 | cell own v =>
  obtain ⟨b,o,v',h1,h2,h3,h4,h5⟩:=h;have hk:=hb _ h1;simp only at hk;refine ⟨b,o,v',h1,h2,?_,?_,h5⟩
  ·unfold World.cell? at h3 ⊢;simp only at h3 ⊢;rw [hk];exact h3
  ·unfold World.frozen? at h4 ⊢;simp only at h4 ⊢;rw [hk];exact h4
 | map es ck=>obtain ⟨b,es',h1,h2,h3⟩:=h;exact ⟨b,es',h1,by rw [hb _ h1];exact h2,h3⟩
 | loop st pe t ps asg body=>obtain ⟨b,l,h1,h2,h3⟩:=h;exact ⟨b,l,h1,by rw [hb _ h1];exact h2,h3⟩
 | dfr f=>obtain ⟨b,h1,h2⟩:=h;exact ⟨b,h1,by rw [hb _ h1];exact h2⟩
theorem Rel.block {N0:Nat} (h:Rel P N0 x H w) (hb:∀p ob a,H p=some ob→x.ρ (ownOf p ob)=some a→w'.heap[a.block]? = w.heap[a.block]?):Rel P N0 x H w' :=
 ⟨fun p ob hp=>(h.obj p ob hp).block fun a ha=>hb p ob a hp ha,h.inj,h.low⟩
theorem Hr (b:Nat):∀(vs:List Value) (o:Nat) (w:World) (k:Nat),k≠b→(w.setCells b o vs).heap[k]? = w.heap[k]?
 | [],_,_,_,_=>rfl
 | v::vs,o,w,k,hk=>by rw [World.setCells,Hr b vs _ _ _ hk];exact RowKit.Below.heap_setCell _ _ _ _ hk
theorem Y8 {m off n c z:Nat} {N0:Nat} {src:List Value} (hl:s.load m off (n*z)=some src) (hA:∀p,m+1+off≤p→p<m+1+off+n*z→H p=s.get p) (hR:Rel P N0 x H w) (hv:VR x (.slice (some ⟨m,off,none⟩) n c) v') :
  ∃l,SrcR w z n v' l∧VRL x src l:=by
 cases hv with
 | sl h1 ho' hc =>
  rename_i b o' o'' c'
  obtain ⟨l',q1,q2,q3⟩:=D0 hR hl hA h1;refine ⟨l',⟨.inr ⟨b,o'',c',rfl,q2,fun j u hj=>?_⟩⟩,q1⟩;rcases ho' with q|⟨q,_⟩
  ·rw [q];exact (q3 j u hj).1
  ·rw [q] at q2;simp at q2;subst q2;simp at hj
theorem R7 {t1 e:TypeId} {ty:TypeId} {i:TypeInfo} {xv:Value} (ht:P.underlying t1=some (.slice e)) (hi:P.info? e=some i) (hx:SrcR w i.size 0 xv []):(Builtin.append_ #[t1,t1] ty #[.slice none 0 0,xv]).run P w=.ok (.slice none 0 0) w:=by
 have h1:=hx.cells (P:=P) (w':=w) (fun _=>rfl);have h2:=hx.lenOf;simp [Builtin.append_,run_underlying ht,sizeOf,typeInfo,hi,h2,h1]
theorem R8 {t1 e:TypeId} {ty:TypeId} {i:TypeInfo} {xv:Value} {b o1 l c' n:Nat} {news:List Value} (ht:P.underlying t1=some (.slice e)) (hi:P.info? e=some i) (hx:SrcR w i.size n xv news) (h1:∀u∈news,u.oneCell'=true) (hroom:l+n≤c')
  (hc:∀j,j<news.length→(w.cell? ⟨b,o1+l*i.size+j,none⟩).isSome=true) (hf:∀j,j<news.length→w.frozen? ⟨b,o1+l*i.size+j,none⟩=false) :
  (Builtin.append_ #[t1,t1] ty #[.slice (some ⟨b,o1,none⟩) l c',xv]).run P w=.ok (.slice (some ⟨b,o1,none⟩) (l+n) c') (w.setCells b (o1+l*i.size) news):=by
 have q1:=hx.cells (P:=P) (w':=w) (fun _=>rfl);have q2:=hx.lenOf;have hst:=run_storeCells_cells (P:=P) b (o1+l*i.size) news 0 w (by simpa using hc) (by simpa using hf) h1;simp only [Nat.add_zero] at hst;simp [Builtin.append_,run_underlying ht,sizeOf,typeInfo,hi,q2,hroom,q1,Addr.add_lit,hst]
theorem M8 {t1 e:TypeId} {ty:TypeId} {i:TypeInfo} {z xv:Value} {base:Option Addr} {l c' n:Nat} {olds news:List Value} (ht:P.underlying t1=some (.slice e)) (hi:P.info? e=some i) (hz:i.zero=some z)
  (hs:SrcR w i.size l (.slice base l c') olds) (hx:SrcR w i.size n xv news) (hg:c'<l+n) (h63:l+n≤1000000000) (hby:(l+n)*i.bytes≤1000000000) :
  (Builtin.append_ #[t1,t1] ty #[.slice base l c',xv]).run P w=.ok (.slice (some ⟨w.heap.size,0,none⟩) (l+n) (grownCap w (l+n) c' e))
   (w.drew.alloc (.cells (olds.toArray++news.toArray++Builtin.zeroCells z.cells (grownCap w (l+n) c' e-(l+n))) e)):=by
 have hn:¬(l+n≤c'):=by omega
 have h63':¬(9223372036854775807<((l:Int)+(n:Int))):=by omega
 have hfit:=growslice_fits (need:=l+n) (old:=c') (bytes:=i.bytes) hg (by omega);have h48':¬(281474976710656<Builtin.nextslicecap (l+n) c'*i.bytes):=by omega
 have hf:=hx.cells (P:=P) (w':=w.drew) (fun a=>by simp);have hfo:=hs.cells (P:=P) (w':=w.drew) (fun a=>by simp);have q2:=hx.lenOf;simp [Builtin.append_,run_underlying ht,sizeOf,typeInfo,zeroValue,hi,hz,q2,hn,h63',h48',Question.forced,hf,hfo,newRow,grownCap]
 congr 2
 apply Array.ext';simp [List.append_assoc]
theorem Mv {vs vs' zs:List Value} {e:TypeId} {sz cap:Nat} (ho:s.Ok) (hp:Pre P w0 s (s.row vs e true) H x w) (hv:VRL x vs vs') (hsz:szT P e=some sz) (hcap:vs'.length+zs.length=cap*sz) :
  ∃y,x.to y s.c (s.row vs e true).c∧y.ρ s.c=some ⟨w.heap.size,0,none⟩∧y.z s.c=some (sz,cap*sz)∧Rel P w0.heap.size y (Over s (s.row vs e true) H) (w.drew.alloc (.cells (vs'++zs).toArray e))∧Ext w0 (w.drew.alloc (.cells (vs'++zs).toArray e)):=by
 have hlt:s.c<(s.row vs e true).c:=by show s.c<s.c+1+vs.length;omega
 obtain ⟨f1,f2⟩:=hp.fresh s.c (Nat.le_refl _) (.inl hlt);have hnew:(w.drew.alloc (.cells (vs'++zs).toArray e)).heap[w.heap.size]? = some (.cells (vs'++zs).toArray e):=by
  show (w.heap.push _)[w.heap.size]? = _;simp
 have hkeep:Keeps w (w.drew.alloc (.cells (vs'++zs).toArray e)):=fun b ob hb=>Gr w.drew _ b ob hb;refine ⟨x.add s.c ⟨w.heap.size,0,none⟩ (some (sz,cap*sz)) vs.length,Cx.add_to f1 f2 hlt,by simp [Cx.add],by simp [Cx.add],?_,RowKit.Below.alloc (RowKit.Below.drew hp.ext) hp.ext.size _⟩;refine Jy (vs':=vs') (m:=(vs'++zs).length) (hp.rel.keep hkeep) ho.wf (hp.W ho (Dc ho).1) f1 f2 (fun p ob a h1 h2=>?_) hp.ext.size ⟨?_,fun off=>?_⟩ (by rw [hv.len,List.length_append];omega) (fun j u hj=>?_) hv (fun h=>by cases h) (fun sz' en h=>?_)
 ·have:=Jp hp.rel h1 h2;omega
 ·unfold World.shape?;rw [hnew];simp
 ·unfold World.frozen?;simp only;rw [hnew];simp
 ·unfold World.cell?;simp only;rw [hnew];simp;have hj':=(List.getElem?_eq_some_iff.1 hj).1;rw [List.getElem?_append_left hj'];exact hj
 ·simp only [Option.some.injEq,Prod.mk.injEq] at h;obtain ⟨rfl,rfl⟩:=h;exact ⟨by rw [List.length_append];omega,hsz⟩
theorem W5 {vs olds news:List Value} {e:TypeId} {sz b o1 nn c':Nat} (ho:s.Ok) (hp:Pre P w0 s (s.row vs e true) H x w) (hv:VRL x vs (olds++news)) (hsz:szT P e=some sz) (hrow:RowAt w b e nn) (hlow:w0.heap.size≤b)
  (hfree:∀p ob a,H p=some ob→x.ρ (ownOf p ob)=some a→a.block≠b) (hfit:o1+c'*sz≤nn) (hlen:(olds++news).length≤c'*sz) (hold:∀j u,olds[j]? = some u→w.cell? ⟨b,o1+j,none⟩=some u) (hin:∀j,j<news.length→(w.cell? ⟨b,o1+olds.length+j,none⟩).isSome=true) :
  ∃y,x.to y s.c (s.row vs e true).c∧y.ρ s.c=some ⟨b,o1,none⟩∧y.z s.c=some (sz,o1+c'*sz)∧Rel P w0.heap.size y (Over s (s.row vs e true) H) (w.setCells b (o1+olds.length) news)∧Ext w0 (w.setCells b (o1+olds.length) news):=by
 have hlt:s.c<(s.row vs e true).c:=by show s.c<s.c+1+vs.length;omega
 obtain ⟨f1,f2⟩:=hp.fresh s.c (Nat.le_refl _) (.inl hlt);refine ⟨x.add s.c ⟨b,o1,none⟩ (some (sz,o1+c'*sz)) vs.length,Cx.add_to f1 f2 hlt,by simp [Cx.add],by simp [Cx.add],?_,Dw hlow _ _ _ hp.ext⟩;refine Jy (vs':=olds++news) (m:=nn) (hp.rel.block fun p ob a h1 h2=>Hr b _ _ _ _ (hfree p ob a h1 h2)) ho.wf (hp.W ho (Dc ho).1) f1 f2 hfree hlow ⟨by rw [Ez];exact hrow.shape,fun off=>by rw [World.frozen?_setCells];exact hrow.free off⟩
  (by rw [hv.len];omega) (fun j u hj=>?_) hv (fun h=>by cases h) (fun sz' en h=>?_)
 ·by_cases hjo:j<olds.length
  ·rw [List.getElem?_append_left hjo] at hj;rw [World.cell?_setCells_out]
   ·exact hold j u hj
   ·intro _ _;simp only;omega
  ·rw [List.getElem?_append_right (by omega)] at hj;have hjn:=(List.getElem?_eq_some_iff.1 hj).1;have:=World.cell?_setCells_in b news (o1+olds.length) w hin (j-olds.length) hjn;rw [show o1+olds.length+(j-olds.length)=o1+j by omega] at this;rw [this,←hj,List.getElem?_eq_getElem hjn]
 ·simp only [Option.some.injEq,Prod.mk.injEq] at h;obtain ⟨rfl,rfl⟩:=h;exact ⟨hfit,hsz⟩
end
end Go.Ev
namespace Go.Ev
open Go Go.Eng
set_option linter.unusedVariables false
section
variable {P:Program} {w0 w w' w1:World} {s s' s1 s2:S} {H:Mem} {x y:Cx} {o:Oper} {v v':Value}
theorem U1 (z:Array Value) (n:Nat):(Builtin.zeroCells z n).toList.length=n*z.size:=by rw [Array.length_toList,size_zeroCells]
theorem A0i {a b c:Nat} (h:a≤b):a*c≤b*c:=Nat.mul_le_mul_right c h
theorem V8 {N0 k m b o' e:Nat} {g:Bool} (hR:Rel P N0 x H w) (hW:∀p,s.W.testBit p=true→H p=s.get p) (hH:H m=some (.hd k e g)) (hρ:x.ρ m=some ⟨b,o',none⟩) :
  ∀p ob a,Over s (s.drop k m) H p=some ob→x.ρ (ownOf p ob)=some a→a.block≠b:=by
 intro p ob a hp ha hab;rw [Pd hW] at hp
 split at hp
 ·cases hp
 ·rename_i hn
  have hown:=hR.inj p m ob _ a ⟨b,o',none⟩ hp hH ha hρ hab;simp only [ownOf] at hown;obtain ⟨_,_,_,h1,_,⟨_,hk⟩,_⟩:=hR.obj m _ hH;have hob:=hR.obj p ob hp
  cases ob with
  | cell own v =>
   obtain ⟨_,_,_,q1,q2,_⟩:=hob;simp only [ownOf] at hown;subst hown;rw [hk] at q2;omega
  | _=>simp only [ownOf] at hown;omega
theorem Vv {c:Call} {d sr:Operand} {t1 e:TypeId} {i:TypeInfo} (hop:o.op=.call c) (hc:c.callee=.builtin .append) (hargs:c.args.toList=[d,sr]) (hts:c.argTypes.toList=[t1,t1]) (hu:P.underlying t1=some (.slice e)) (hi:P.info? e=some i) (hzo:zOk i=true)
  (hd':OdIn o d) (hs':OdIn o sr):C5 P o (fun run t s K=>xAp t s K e i.size i.bytes (od d) (od sr)):=by
 have hdf:∀c,o.op≠.defer c:=fun c e=>by rw [hop] at e;cases e
 have ha:c.args=#[d,sr]:=Array.toList_inj.1 (by rw [hargs]);have ht:c.argTypes=#[t1,t1]:=Array.toList_inj.1 (by rw [hts]);have hsz:szT P e=some i.size:=by unfold szT;rw [hi];rfl
 obtain ⟨z,hz,hpos,hzc⟩:∃z,i.zero=some z∧1≤i.size∧z.cells.size=i.size:=by
  unfold zOk at hzo;rw [Bool.and_eq_true,Bool.and_eq_true] at hzo
  cases hz:i.zero with
  | none=>rw [hz] at hzo;simp at hzo
  | some z =>
   rw [hz] at hzo;have:=Nat.eq_of_beq_eq_true hzo.2;exact ⟨z,rfl,Nat.le_of_ble_eq_true hzo.1.1,by simpa using this⟩
 have hex:∀(a:Act) (w w':World) (r:Value),(Builtin.append_ #[t1,t1] o.type #[a.eval d,a.eval sr]).run P w=.ok r w'→(execOp a.eval o).run P w=.ok (.value r) w':=by
  intro a w w' r h;simp [execOp,hop,resolve,hc,ha,ht,invoke,builtin,h]
 intro run t s K out hr ho h;have h:xAp t s K e i.size i.bytes (od d) (od sr)=some out:=h;unfold xAp at h;rw [Aj,Aj] at h;unfold A19 at h;obtain ⟨n,src,T,hk,hT,hsl,hsrc⟩:=Wb (P:=P) ho h
 clear h
 have ho1:S.Ok ⟨s.h,s.c,T,s.W,s.m⟩:=F8 ho hT;have hst1:Stp s ⟨s.h,s.c,T,s.W,s.m⟩:=Df hT;generalize hs1:(⟨s.h,s.c,T,s.W,s.m⟩:S)=s1 at hk ho1 hst1 hsrc;have main:∃v s',Stp s1 s'∧s'.Ok∧K v s'=some out∧∀(w0:World) (H:Mem) (x:Cx) (w:World) (a:Act) (news:List Value),Pre P w0 s1 s' H x w→EnvR x t a o→SrcR w i.size n (a.eval sr) news→VRL x src news →
   ∃r w',(Builtin.append_ #[t1,t1] o.type #[a.eval d,a.eval sr]).run P w=.ok r w'∧Post P w0 s1 s' v H x r w':=by
  clear hsrc hs1
  obtain ⟨ad,l,cc,e1,h⟩:=H4 hk
  clear hk
  cases ad with
  | none =>
   obtain ⟨hb,h⟩:=Bc h;rw [Bool.and_eq_true] at hb;have hl0:=Nat.eq_of_beq_eq_true hb.1;have hc0:=Nat.eq_of_beq_eq_true hb.2;subst hl0 hc0
   cases hn:Nat.beq n 0 with
   | true =>
    rw [hn] at h;have h:K (.slice none 0 0) s1=some out:=h;have hn:=Nat.eq_of_beq_eq_true hn;subst hn;refine ⟨_,s1,Stp.refl s1,ho1,h,fun w0 H x w a news hp hF hx hv=>?_⟩;have g1:=Ai (a:=a) hF hd';rw [e1] at g1;have hnil:news=[]:=List.eq_nil_of_length_eq_zero (by rw [hx.len];simp);subst hnil;generalize a.eval d=v1 at g1
    cases g1 with
    | snil=>exact ⟨_,w,R7 hu hi hx,hp.post0 ho1 .snil⟩
   | false =>
    rw [hn] at h;have h:oB (src.all Value.oneCell'&&(Nat.ble n 1000000000&&Nat.ble (n*i.bytes) 1000000000)) (s1.rowK src e true (K (.slice (some ⟨s1.c,0,none⟩) n n)))=some out:=h;obtain ⟨hb2,h⟩:=Bc h;rw [Bool.and_eq_true,Bool.and_eq_true] at hb2;have hb3:=Nat.le_of_ble_eq_true hb2.2.1;have hb4:=Nat.le_of_ble_eq_true hb2.2.2;rw [Fa] at h;obtain ⟨q1,q2⟩:=Dc (vs:=src) (e:=e) (g:=true) ho1;refine ⟨_,_,q1,q2,h,fun w0 H x w a news hp hF hx hv=>?_⟩;have g1:=Ai (a:=a) hF hd';rw [e1] at g1;have hn0:0<n:=by
     rcases Nat.eq_zero_or_pos n with q|q
     ·rw [q] at hn;cases hn
     ·exact q
    generalize a.eval d=v1 at g1
    cases g1 with
    | snil =>
     have hrun:=M8 (ty:=o.type) (base:=none) (l:=0) (c':=0) (olds:=[]) hu hi hz ⟨.inl ⟨rfl,rfl,rfl⟩⟩ hx (by omega) (by omega) (by simpa using hb4);simp only [Nat.zero_add] at hrun;have hge:=grownCap_ge w n 0 e;have hzl:news.length+(Builtin.zeroCells z.cells (grownCap w n 0 e-n)).toList.length=grownCap w n 0 e*i.size:=by
      rw [U1,hzc,hx.len,←Nat.add_mul];congr 1;omega
     obtain ⟨y,y1,y2,y3,y4,y5⟩:=Mv (zs:=(Builtin.zeroCells z.cells (grownCap w n 0 e-n)).toList) ho1 hp hv hsz hzl;have he:(([]:List Value).toArray++news.toArray++Builtin.zeroCells z.cells (grownCap w n 0 e-n))=(news++(Builtin.zeroCells z.cells (grownCap w n 0 e-n)).toList).toArray:=by
      apply Array.toList_inj.1;simp
     rw [he] at hrun;exact ⟨_,_,hrun,y,y1,.sl y2 (.inl rfl) (.inr ⟨_,_,y3,hge,by omega⟩),y4,y5⟩
  | some ad =>
   obtain ⟨m,off,e0,hq⟩:=J9 h
   clear h
   subst e0;rw [B9] at hq;have h:=hq
   clear hq
   cases hroom:Nat.ble (l+n) cc with
   | true =>
    rw [hroom] at h;have h:fN (off+l*i.size) (fun o'=>s1.storeK m o' (n*i.size) src fun s=>fN (l+n) fun l=>K (.slice (some ⟨m,off,none⟩) l cc) s)=some out:=h;rw [B9,L1] at h;obtain ⟨s',hst,h⟩:=Au h;rw [B9] at h;have hroom:=Nat.le_of_ble_eq_true hroom;obtain ⟨q1,q2,q3,q4,old,q5⟩:=L2 ho1 hst;refine ⟨_,s',q1,q2,h,fun w0 H x w a news hp hF hx hv=>?_⟩;have g1:=Ai (a:=a) hF hd';rw [e1] at g1;obtain ⟨hlen5,hget5⟩:=Bo q5;have hTT:∀p,m+1+(off+l*i.size)≤p→p<m+1+(off+l*i.size)+n*i.size→s'.T.testBit p=true:=by
     intro p r1 r2;unfold S.store at hst;rw [q5] at hst;simp only at hst;rw [show (Nat.beq src.length (n*i.size)&&src.all Value.oneCell')=true by rw [q4,q3];simp] at hst;simp only [cond_true,Option.some.injEq] at hst;subst hst;simp only [Nat.testBit_or,Ba,Bool.or_eq_true,decide_eq_true_eq];exact .inr ⟨r1,r2⟩
    have hA:∀p,m+1+(off+l*i.size)≤p→p<m+1+(off+l*i.size)+n*i.size→H p=s1.get p:=by
     intro p r1 r2;obtain ⟨j,rfl⟩:∃j,p=m+1+(off+l*i.size)+j:=⟨p-(m+1+(off+l*i.size)),by omega⟩;have hj:j<old.length:=by omega
     exact hp.agree _ (ho1.wf.lt (hget5 j old[j] (List.getElem?_eq_getElem hj))) (hTT _ (by omega) (by omega))
    generalize a.eval d=v1 at g1
    cases g1 with
    | sl h1 ho' hc' =>
     rename_i b o' o1 c'
     have hrel:=J7 hp.rel ho1.wf hst hA (fun p hpp=>(hp.W ho1 q1 p hpp).1) hv h1;obtain ⟨old',r1,r2,r3⟩:=D0 hp.rel q5 hA h1;have hcc:cc≤c':=by rcases hc' with q|⟨_,_,_,q,_⟩<;>omega
     have haddr:news.length=0∨o1=o'+off:=by
      rcases ho' with q|⟨q,q'⟩
      ·exact .inr q
      ·left;rw [hx.len];have:n=0:=by omega
       rw [this];simp
     have hrun:=R8 (ty:=o.type) (b:=b) (o1:=o1) (l:=l) (c':=c') hu hi hx (Ju hv q4) (by omega) (fun j hj=>by
      rcases haddr with q|q
      ·omega
      ·have hj':j<old'.length:=by rw [r2,←hx.len];exact hj
       have:=(r3 j old'[j] (List.getElem?_eq_getElem hj')).1;rw [q,show o'+off+l*i.size+j=o'+(off+l*i.size)+j by omega,this];rfl) (fun j hj=>by
      rcases haddr with q|q
      ·omega
      ·have hj':j<old'.length:=by rw [r2,←hx.len];exact hj
       have:=(r3 j old'[j] (List.getElem?_eq_getElem hj')).2;rw [q,show o'+off+l*i.size+j=o'+(off+l*i.size)+j by omega,this])
     have hw':w.setCells b (o1+l*i.size) news=w.setCells b (o'+(off+l*i.size)) news:=by
      rcases haddr with q|q
      ·have:news=[]:=List.eq_nil_of_length_eq_zero q;subst this;rfl
      ·rw [q,Nat.add_assoc]
     have hext:Ext w0 (w.setCells b (o'+(off+l*i.size)) news):=by
      by_cases hn:news=[]
      ·rw [hn];exact hp.ext
      ·have hj:0<old.length:=by
        have:0<news.length:=by cases news<;>simp at hn ⊢
        rw [hx.len] at this;omega
       have hH:=hA (m+1+(off+l*i.size)+0) (by omega) (by omega);have hcc:=hget5 0 old[0] (List.getElem?_eq_getElem hj);rw [show s1.h.g (pn (m+1+(off+l*i.size)+0))=s1.get (m+1+(off+l*i.size)+0) from rfl] at hcc;rw [hcc] at hH;exact Dw (hp.rel.low _ _ _ hH h1) _ _ _ hp.ext
     rw [hw'] at hrun;refine ⟨_,_,hrun,x,x.to_refl _ _,.sl h1 ?_ hc',hrel,hext⟩;rcases ho' with q|⟨q,q'⟩
     ·exact .inl q
     ·exact .inr ⟨by omega,q'⟩
   | false =>
    rw [hroom] at h;have h:X9 s1 e m off l (l*i.size) n i.bytes src K=some out:=h;have hroom:cc<l+n:=by
     rcases Nat.lt_or_ge cc (l+n) with q|q
     ·exact q
     ·rw [Nat.ble_eq_true_of_le q] at hroom;cases hroom
    unfold X9 at h;rw [Gt] at h;obtain ⟨old,hl,h⟩:=Au h;rw [Jx] at h;obtain ⟨hlen,hget⟩:=Bo hl;have ho2:S.Ok (s1.rds (m+1+off) (l*i.size)):=F8 ho1 Ah;have hst2:Stp s1 (s1.rds (m+1+off) (l*i.size)):=Df Ah;have hTr:∀p,m+1+off≤p→p<m+1+off+l*i.size→(s1.rds (m+1+off) (l*i.size)).T.testBit p=true:=by
     intro p r1 r2;show (s1.T ||| bits (m+1+off) (l*i.size)).testBit p=true;rw [Nat.testBit_or,Ba,Bool.or_eq_true];right;simp;omega
    have hl2:(s1.rds (m+1+off) (l*i.size)).load m off (l*i.size)=some old:=hl;have hbefore:∀{s':S} {w0:World} {H:Mem} {x:Cx} {w:World},Stp (s1.rds (m+1+off) (l*i.size)) s'→Pre P w0 s1 s' H x w→Pre P w0 (s1.rds (m+1+off) (l*i.size)) s' H x w:=fun hs hp=>Pre.afterRd ho1 Ah hs hp;have hbehind:∀{s':S} {w0:World} {H:Mem} {x:Cx} {w w':World} {v v':Value},Stp (s1.rds (m+1+off) (l*i.size)) s'→Pre P w0 s1 s' H x w→Post P w0 (s1.rds (m+1+off) (l*i.size)) s' v H x v' w'→Post P w0 s1 s' v H x v' w':=fun hs hp hq=>Post.beforeRd ho1 Ah hs hp hq;generalize s1.rds (m+1+off) (l*i.size)=s2 at h ho2 hst2 hTr hl2 hbefore hbehind
    clear hl hlen hget
    obtain ⟨hlen,hget⟩:=Bo hl2
    split at h
    ·rename_i k e' g hhd
     obtain ⟨hb,h⟩:=Bc h;simp only [Bool.and_eq_true] at hb;obtain ⟨⟨hb1,hb2⟩,hb3,hb4,hb5⟩:=hb;have hb1:=Nat.eq_of_beq_eq_true hb1;rw [Nat.blt_eq] at hb2;have hb4:=Nat.le_of_ble_eq_true hb4;have hb5:=Nat.le_of_ble_eq_true hb5;subst hb1;rw [B9,B9] at h;have there:∀{s':S} {w0:World} {H:Mem} {x:Cx} {w:World},Stp s2 s'→s'.T.testBit m=true→Pre P w0 s2 s' H x w→H m=some (.hd k e' g)∧∀p,m+1+off≤p→p<m+1+off+l*i.size→H p=s2.get p:=by
      intro s' w0 H x w hs hTm hp;refine ⟨by rw [←hhd];exact hp.agree m (ho2.wf.lt hhd) hTm,fun p r1 r2=>?_⟩;obtain ⟨j,rfl⟩:∃j,p=m+1+off+j:=⟨p-(m+1+off),by omega⟩;have hj:j<old.length:=by omega
      exact hp.agree _ (ho2.wf.lt (hget j old[j] (List.getElem?_eq_getElem hj))) (hs.T _ (hTr _ r1 r2))
     have hTm:∀T',(T' ||| bits m (k+1)).testBit m=true:=fun T'=>by rw [Nat.testBit_or,Ba];simp
     cases g with
     | false =>
      have h:S.rowK ⟨s2.h,s2.c,s2.T ||| bits m (k+1),s2.W,s2.m⟩ (old++src) e' true (K (.slice (some ⟨s2.c,0,none⟩) (l+n) (l+n)))=some out:=h;have ho3:S.Ok ⟨s2.h,s2.c,s2.T ||| bits m (k+1),s2.W,s2.m⟩:=F8 ho2 Ah;have hst3:Stp s2 ⟨s2.h,s2.c,s2.T ||| bits m (k+1),s2.W,s2.m⟩:=Df Ah;rw [Fa] at h;obtain ⟨q1,q2⟩:=Dc (vs:=old++src) (e:=e') (g:=true) ho3;refine ⟨_,_,hst2.trans (hst3.trans q1),q2,h,fun w0 H x w a news hp1 hF hx hv=>?_⟩;have hp:=hbefore (hst3.trans q1) hp1;have hp3:=Pre.afterRd ho2 Ah q1 hp;obtain ⟨hH,hA⟩:=there (hst3.trans q1) (q1.T _ (hTm _)) hp;have g1:=Ai (a:=a) hF hd';rw [e1] at g1;obtain ⟨olds,hso,hvo⟩:=Y8 hl2 hA hp.rel g1;obtain ⟨b1,o1',nn,h1,hrow,⟨hfit,hkk⟩,hz1,hz2⟩:=hp.rel.obj _ _ hH;have hzn:=hz1 rfl;generalize a.eval d=v1 at g1 hso
      cases g1 with
      | sl k1 ho' hc' =>
       rename_i b o' o1 c'
       have hcc:c'=cc:=by
        rcases hc' with q|⟨_,_,q,_⟩
        ·exact q
        ·rw [hzn] at q;cases q
       subst hcc;have hrun:=M8 (ty:=o.type) hu hi hz hso hx hroom hb4 hb5;have hge:=grownCap_ge w (l+n) c' e';have hzl:(olds++news).length+(Builtin.zeroCells z.cells (grownCap w (l+n) c' e'-(l+n))).toList.length=grownCap w (l+n) c' e'*i.size:=by
        rw [U1,hzc,List.length_append,hx.len,hso.len,←Nat.add_mul,←Nat.add_mul];congr 1;omega
       obtain ⟨y,y1,y2,y3,y4,y5⟩:=Mv (zs:=(Builtin.zeroCells z.cells (grownCap w (l+n) c' e'-(l+n))).toList) ho3 hp3 (hvo.app hv) hsz hzl;have he:(olds.toArray++news.toArray++Builtin.zeroCells z.cells (grownCap w (l+n) c' e'-(l+n)))=((olds++news)++(Builtin.zeroCells z.cells (grownCap w (l+n) c' e'-(l+n))).toList).toArray:=by
        apply Array.toList_inj.1;simp
       rw [he] at hrun;exact ⟨_,_,hrun,hbehind (hst3.trans q1) hp1 (Post.beforeRd ho2 Ah q1 hp ⟨y,y1,.sl y2 (.inl rfl) (.inr ⟨_,_,y3,hge,by omega⟩),y4,y5⟩)⟩
     | true =>
      have h:Ls (k+1) m s2.h (fun h=>fN (s2.W ||| bits m (k+1)) fun W=>gr3 s2 e' n (l+n) (s2.T ||| bits m (k+1)) (old++src) K h W)=some out:=h;rw [Mf,B9] at h;obtain ⟨d1,d2⟩:=Wy (k:=k) (m:=m) ho2 hb2;have h:(s2.drop k m).rowK (old++src) e' true (K (.slice (some ⟨s2.c,0,none⟩) (l+n) (l+n)))=some out:=h;rw [Fa] at h;obtain ⟨q1,q2⟩:=Dc (vs:=old++src) (e:=e') (g:=true) d2;refine ⟨_,_,hst2.trans (d1.trans q1),q2,h,fun w0 H x w a news hp1 hF hx hv=>?_⟩;have hp:=hbefore (d1.trans q1) hp1;have hW:=fun p hpp=>(hp.W ho2 (d1.trans q1) p hpp).1;obtain ⟨hH,hA⟩:=there (d1.trans q1) (q1.T _ (hTm _)) hp;have g1:=Ai (a:=a) hF hd';rw [e1] at g1;obtain ⟨olds,hso,hvo⟩:=Y8 hl2 hA hp.rel g1;obtain ⟨b1,o1',nn,h1,hrow,⟨hfit,hkk⟩,hz1,hz2⟩:=hp.rel.obj _ _ hH;have hlow:=hp.rel.low _ _ _ hH h1;have hp3:Pre P w0 (s2.drop k m) ((s2.drop k m).row (old++src) e' true) (Over s2 (s2.drop k m) H) x w:=hp.next d1 q1 d2 (x.to_refl _ _) (Wx hW hp.rel) hp.ext;have hfree:=V8 hp.rel hW hH h1;generalize a.eval d=v1 at g1 hso
      cases g1 with
      | sl k1 ho' hc' =>
       rename_i b o' o1 c'
       rw [h1] at k1
       cases k1
       by_cases hroom2:l+n≤c'
       ·
        have hne:c'≠cc:=by omega
        obtain ⟨sz,en,z1,z2,z3⟩:∃sz en,x.z m=some (sz,en)∧cc≤c'∧o1+c'*sz=en:=by
         rcases hc' with q|q
         ·exact absurd q hne
         ·exact q
        have hzz:=hz2 sz en z1;rw [hsz] at hzz;obtain ⟨hz3,hz4⟩:=hzz;simp only [Option.some.injEq] at hz4;subst hz4;have hcells:∀j,j<c'*i.size→(w.cell? ⟨b1,o1+j,none⟩).isSome=true:=by
         intro j hj;have:=hrow.shape;unfold World.shape? at this;unfold World.cell?;simp only
         split at this
         ·rename_i cs el fr hcs
          simp only [Option.some.injEq,Prod.mk.injEq] at this;simp;omega
         ·cases this
        have hmul:(l+n)*i.size≤c'*i.size:=A0i hroom2;have hlno:olds.length=l*i.size:=hso.len;have hlnn:news.length=n*i.size:=hx.len;have hadd:(l+n)*i.size=l*i.size+n*i.size:=Nat.add_mul ..;have hrun:=R8 (ty:=o.type) (b:=b1) (o1:=o1) (l:=l) (c':=c') hu hi hx (Ju hv hb3) hroom2 (fun j hj=>by
         have:=hcells (l*i.size+j) (by omega)
         rwa [←Nat.add_assoc] at this) (fun j hj=>hrow.free _)
        obtain ⟨y,y1,y2,y3,y4,y5⟩:=W5 (olds:=olds) (news:=news) d2 hp3 (hvo.app hv) hsz hrow hlow hfree (show o1+c'*i.size≤nn by omega) (by rw [List.length_append];omega) (fun j u hj=>by
         rcases hso.is with ⟨q,_⟩|⟨b',o'',c'',q,q2,q3⟩
         ·cases q
         ·cases q;exact q3 j u hj) (fun j hj=>by
         have:=hcells (l*i.size+j) (by omega);rw [hlno]
         rwa [←Nat.add_assoc] at this)
        rw [hlno] at y4 y5;exact ⟨_,_,hrun,hbehind (d1.trans q1) hp1 (Post.prev d1 q1 (x.to_refl _ _) ⟨y,y1,.sl y2 (.inl rfl) (.inr ⟨_,_,y3,hroom2,by omega⟩),y4,y5⟩)⟩
       ·have hroom3:c'<l+n:=by omega
        have hrun:=M8 (ty:=o.type) hu hi hz hso hx hroom3 hb4 hb5;have hge:=grownCap_ge w (l+n) c' e';have hzl:(olds++news).length+(Builtin.zeroCells z.cells (grownCap w (l+n) c' e'-(l+n))).toList.length=grownCap w (l+n) c' e'*i.size:=by
         rw [U1,hzc,List.length_append,hx.len,hso.len,←Nat.add_mul,←Nat.add_mul];congr 1;omega
        obtain ⟨y,y1,y2,y3,y4,y5⟩:=Mv (zs:=(Builtin.zeroCells z.cells (grownCap w (l+n) c' e'-(l+n))).toList) d2 hp3 (hvo.app hv) hsz hzl;have he:(olds.toArray++news.toArray++Builtin.zeroCells z.cells (grownCap w (l+n) c' e'-(l+n)))=((olds++news)++(Builtin.zeroCells z.cells (grownCap w (l+n) c' e'-(l+n))).toList).toArray:=by
         apply Array.toList_inj.1;simp
        rw [he] at hrun;exact ⟨_,_,hrun,hbehind (d1.trans q1) hp1 (Post.prev d1 q1 (x.to_refl _ _) ⟨y,y1,.sl y2 (.inl rfl) (.inr ⟨_,_,y3,hge,by omega⟩),y4,y5⟩)⟩
    ·cases h
 obtain ⟨v,s',m1,m2,m3,m4⟩:=main;refine ⟨v,s',hst1.trans m1,m2,m3,fun w0 H x w r a hp hF=>?_⟩;obtain ⟨news,hx,hv⟩:=hsrc s' m1 w0 H x w (a.eval sr) hp (Ai hF hs');subst hs1;obtain ⟨rv,w',r1,r2⟩:=m4 w0 H x w a news (Pre.afterRd ho hT m1 hp) hF hx hv;exact Jv hdf (hex a w w' rv r1) (Post.beforeRd ho hT m1 hp r2)
end
end Go.Ev
namespace Go.Ev
open Go Go.Eng
set_option linter.unusedVariables false
section
variable {P:Program} {w0 w w' w1:World} {s s' s1 s2:S} {H:Mem} {x y:Cx} {o:Oper} {v v':Value}
theorem same_other {ba oa bb ob:Nat} {ea eb:TypeId} {na nb:Nat} (hne:ba≠bb) (ha:RowAt w ba ea na) (hb:RowAt w bb eb nb):(sameAddr ⟨ba,oa,none⟩ ⟨bb,ob,none⟩).run P w=.ok false w:=by
 have h1:=ha.shape;have h2:=hb.shape;have f1:=ha.free;have f2:=hb.free;simp [sameAddr,hne,noView,viewAt,mayBeOne,stringish,h1,h2,f1,f2]
theorem ptr_eq {tp e:TypeId} {z:Nat} {a b:Option Addr} {r:Bool} (hu:P.underlying tp=some (.pointer e)) (hz:szT P e=some (z+1))
  (h:match a,b with|none,b=>r=b.isNone|some _,none=>r=false|some a,some b=>(sameAddr a b).run P w=.ok r w):(Op.equal tp (.pointer a) (.pointer b)).run P w=.ok r w:=by
 have key:∀d:Nat,(Op.equalIn (d+1) tp (.pointer a) (.pointer b)).run P w=.ok r w:=by
  intro d;unfold szT at hz
  cases hi:P.info? e with
  | none=>rw [hi] at hz;cases hz
  | some inf =>
   rw [hi] at hz;simp only [Option.map_some,Option.some.injEq] at hz
   cases a with
   | none=>simp only at h;subst h;simp [Op.equalIn,run_underlying hu]
   | some a =>
    cases b with
    | none=>simp only at h;subst h;simp [Op.equalIn,run_underlying hu]
    | some b=>simp [Op.equalIn,run_underlying hu,sizeOf,typeInfo,hi,hz,h]
 exact key 9999
theorem Xv {neg:Bool} {tp e ty:TypeId} {z:Nat} {a b:Operand} (hop:o.op=.binOp (if neg then .neq else .eql) tp a b ty) (hu:P.underlying tp=some (.pointer e)) (hz:szT P e=some (z+1)) (ha:OdIn o a) (hb:OdIn o b) :
  C5 P o (fun run t s K=>xPe t s K neg (od a) (od b)):=by
 have hd:∀c,o.op≠.defer c:=fun c e=>by rw [hop] at e;cases e
 have real:∀(act:Act) (w:World) (p q:Option Addr) (r:Bool),act.eval a=.pointer p→act.eval b=.pointer q→(Op.equal tp (.pointer p) (.pointer q)).run P w=.ok r w→(execOp act.eval o).run P w=.ok (.value (.bool (r != neg))) w:=by
  intro act w p q r h1 h2 h3
  cases neg<;>simp [execOp,hop,h1,h2,eqGuard,binOp,h3]
 intro run t s K out hr ho h;have h:xPe t s K neg (od a) (od b)=some out:=h;unfold xPe at h;rw [Aj,Aj] at h
 split at h
 ·rename_i e1 e2
  rw [Mn] at h;refine ⟨_,s,Stp.refl s,ho,h,fun w0 H x w r act hp hF=>?_⟩;have g1:=Ai (a:=act) hF ha;rw [e1] at g1;have g2:=Ai (a:=act) hF hb;rw [e2] at g2;generalize hx1:act.eval a=v1 at g1;generalize hx2:act.eval b=v2 at g2
  cases g1;cases g2
  exact Ca hd (real act w none none true hx1 hx2 (ptr_eq hu hz rfl)) (hp.post0 ho (by cases neg<;>exact .bool _))
 ·rename_i aa e1 e2
  rw [Mn] at h;refine ⟨_,s,Stp.refl s,ho,h,fun w0 H x w r act hp hF=>?_⟩;have g1:=Ai (a:=act) hF ha;rw [e1] at g1;have g2:=Ai (a:=act) hF hb;rw [e2] at g2;generalize hx1:act.eval a=v1 at g1;generalize hx2:act.eval b=v2 at g2
  cases g2
  cases g1 with
  | ptr hq=>exact Ca hd (real act w _ none false hx1 hx2 (ptr_eq hu hz rfl)) (hp.post0 ho (by cases neg<;>exact .bool _))
 ·rename_i aa e1 e2
  rw [Mn] at h;refine ⟨_,s,Stp.refl s,ho,h,fun w0 H x w r act hp hF=>?_⟩;have g1:=Ai (a:=act) hF ha;rw [e1] at g1;have g2:=Ai (a:=act) hF hb;rw [e2] at g2;generalize hx1:act.eval a=v1 at g1;generalize hx2:act.eval b=v2 at g2
  cases g1
  cases g2 with
  | ptr hq=>exact Ca hd (real act w none _ false hx1 hx2 (ptr_eq hu hz rfl)) (hp.post0 ho (by cases neg<;>exact .bool _))
 ·rename_i na oa nb ob e1 e2
  split at h
  ·rename_i s1 el1 g1' s2 el2 g2' hg1 hg2
   rw [Kv,Kv,Mn] at h;have hT1:∀p,s.T.testBit p=true→(s.T ||| 2 ^ na).testBit p=true:=Ah;have hst:Stp s ⟨s.h,s.c,(s.T ||| 2 ^ na) ||| 2 ^ nb,s.W,s.m⟩:=Df fun p hp=>Ah p (hT1 p hp);refine ⟨_,⟨s.h,s.c,(s.T ||| 2 ^ na) ||| 2 ^ nb,s.W,s.m⟩,hst,F8 ho fun p hp=>Ah p (hT1 p hp),h,fun w0 H x w r act hp hF=>?_⟩;have hH1:H na=some (.hd s1 el1 g1'):=by
    rw [←hg1];exact hp.agree na (ho.wf.lt hg1) (by show ((s.T ||| 2 ^ na) ||| 2 ^ nb).testBit na=true;simp only [Nat.testBit_or,Ce];simp)
   have hH2:H nb=some (.hd s2 el2 g2'):=by
    rw [←hg2];exact hp.agree nb (ho.wf.lt hg2) (by show ((s.T ||| 2 ^ na) ||| 2 ^ nb).testBit nb=true;simp only [Nat.testBit_or,Ce];simp)
   obtain ⟨b1,o1,n1,r1,w1,_⟩:=hp.rel.obj _ _ hH1;obtain ⟨b2,o2,n2,r2,w2,_⟩:=hp.rel.obj _ _ hH2;have g1:=Ai (a:=act) hF ha;rw [e1] at g1;have g2:=Ai (a:=act) hF hb;rw [e2] at g2;obtain ⟨b1',o1',q1,q2⟩:=g1.ptrI;obtain ⟨b2',o2',q3,q4⟩:=g2.ptrI;rw [r1] at q1;cases q1
   rw [r2] at q3;cases q3
   refine Ca (v:=.bool ((Nat.beq na nb&&Nat.beq oa ob) != neg)) hd (real act w _ _ _ q2 q4 (ptr_eq hu hz ?_)) (hp.rd (fun p hp=>Ah p (hT1 p hp)) ho (.bool _));simp only
   by_cases hn:na=nb
   ·subst hn;rw [r1] at r2;cases r2
    rw [Nat.beq_refl,Bool.true_and]
    by_cases hoo:oa=ob
    ·subst hoo;rw [Nat.beq_refl];exact run_sameAddr_same w _
    ·have:Nat.beq oa ob=false:=by
      cases hb:Nat.beq oa ob with
      | false=>rfl
      | true=>exact absurd (Nat.eq_of_beq_eq_true hb) hoo
     rw [this];simp [sameAddr,hoo]
   ·have:Nat.beq na nb=false:=by
     cases hb:Nat.beq na nb with
     | false=>rfl
     | true=>exact absurd (Nat.eq_of_beq_eq_true hb) hn
    rw [this,Bool.false_and];refine same_other (fun hbb=>hn ?_) w1 w2;have:=hp.rel.inj na nb _ _ ⟨b1,o1,none⟩ ⟨b2,o2,none⟩ hH1 hH2 r1 r2 hbb
    simpa [ownOf] using this
  ·cases h
 ·cases h
theorem Zn {C:Value→Value→Option Bool} {neg:Bool} {a b:Operand} (hd:∀c,o.op≠.defer c)
  (hC:∀(x:Cx) (act:Act) (w:World) (v1 v1' v2 v2':Value) (r:Bool),VR x v1 v1'→VR x v2 v2'→C v1 v2=some r→act.eval a=v1'→act.eval b=v2'→(execOp act.eval o).run P w=.ok (.value (.bool (r != neg))) w)
  (ha:OdIn o a) (hb:OdIn o b):C5 P o (fun run t s K=>xNe t s K C neg (od a) (od b)):=by
 intro run t s K out hr ho h;have h:xNe t s K C neg (od a) (od b)=some out:=h;unfold xNe at h;rw [Aj,Aj] at h;obtain ⟨r,hr',h⟩:=Au h;rw [Mn] at h;refine ⟨_,s,Stp.refl s,ho,h,fun w0 H x w r' act hp hF=>?_⟩;exact Ca hd (hC _ act w _ _ _ _ _ (Ai (a:=act) hF ha) (Ai (a:=act) hF hb) hr' rfl rfl) (hp.post0 ho (.bool _))
def nk:Value→Bool
 | .slice _ _ _=>true
 | .map _=>true
 | .func _ _ _=>true
 | .nilFunc=>true
 | .nilIface=>true
 | .iface _ _=>true
 | _=>false
theorem Qi {tp ty:TypeId} {a b:Operand} {neg:Bool} {r:Bool} {v1 v2:Value} {act:Act} (hop:o.op=.binOp (if neg then .neq else .eql) tp a b ty) (h1:act.eval a=v1) (h2:act.eval b=v2)
  (hg:(eqGuard (if neg then .neq else .eql) tp a b v1 v2).run P w=.ok () w) (hk:nk v1=true) (he:(Op.equal tp v1 v2).run P w=.ok r w) :
  (execOp act.eval o).run P w=.ok (.value (.bool (r != neg))) w:=by
 cases neg<;>cases v1<;>first|exact Bool.noConfusion (hk:false=true)|(simp only [Bool.false_eq_true,if_false,if_true] at hop hg;simp [execOp,hop,h1,h2,binOp,hg,he])
theorem Kz {tp ty e:TypeId} {a b:Operand} {neg:Bool} (hop:o.op=.binOp (if neg then .neq else .eql) tp a b ty) (hu:P.underlying tp=some (.slice e)) (x:Cx) (act:Act) (w:World) (v1 v1' v2 v2':Value) (r:Bool)
  (g1:VR x v1 v1') (g2:VR x v2 v2') (h:cmS v1 v2=some r) (h1:act.eval a=v1') (h2:act.eval b=v2'):(execOp act.eval o).run P w=.ok (.value (.bool (r != neg))) w:=by
 cases g1<;>first|(cases h;done)|skip
 all_goals cases g2<;>first|(cases h;done)|skip
 all_goals
  refine Qi hop h1 h2 (by cases neg<;>simp [eqGuard]) rfl ?_
  have key:∀d,(Op.equalIn (d+1) tp (act.eval a) (act.eval b)).run P w=.ok r w:=by
   intro d;rw [h1,h2];simp [cmS] at h;simp [Op.equalIn,run_underlying hu,h]
  have:=key 9999;rw [h1,h2] at this;exact this
theorem Yw {tp ty k e:TypeId} {a b:Operand} {neg:Bool} (hop:o.op=.binOp (if neg then .neq else .eql) tp a b ty) (hu:P.underlying tp=some (.map k e)) (x:Cx) (act:Act) (w:World) (v1 v1' v2 v2':Value) (r:Bool)
  (g1:VR x v1 v1') (g2:VR x v2 v2') (h:cmM v1 v2=some r) (h1:act.eval a=v1') (h2:act.eval b=v2'):(execOp act.eval o).run P w=.ok (.value (.bool (r != neg))) w:=by
 cases g1<;>first|(cases h;done)|skip
 all_goals cases g2<;>first|(cases h;done)|skip
 all_goals
  refine Qi hop h1 h2 (by cases neg<;>simp [eqGuard]) rfl ?_
  have key:∀d,(Op.equalIn (d+1) tp (act.eval a) (act.eval b)).run P w=.ok r w:=by
   intro d;rw [h1,h2];simp [cmM] at h;simp [Op.equalIn,run_underlying hu,h]
  have:=key 9999;rw [h1,h2] at this;exact this
theorem X7 {tp ty:TypeId} {ps rs:Array TypeId} {vr:Bool} {a b:Operand} {neg:Bool} (hop:o.op=.binOp (if neg then .neq else .eql) tp a b ty) (hu:P.underlying tp=some (.func ps rs vr)) (x:Cx) (act:Act) (w:World) (v1 v1' v2 v2':Value) (r:Bool)
  (g1:VR x v1 v1') (g2:VR x v2 v2') (h:cmN v1 v2=some r) (h1:act.eval a=v1') (h2:act.eval b=v2'):(execOp act.eval o).run P w=.ok (.value (.bool (r != neg))) w:=by
 cases g1<;>first|(cases h;done)|skip
 all_goals cases g2<;>first|(cases h;done)|skip
 all_goals
  refine Qi hop h1 h2 (by cases neg<;>simp [eqGuard]) rfl ?_
  have key:∀d,(Op.equalIn (d+1) tp (act.eval a) (act.eval b)).run P w=.ok r w:=by
   intro d;rw [h1,h2];simp [cmN] at h;simp [Op.equalIn,run_underlying hu,h]
  have:=key 9999;rw [h1,h2] at this;exact this
theorem Vk {tp ty:TypeId} {ms:Array (String×TypeId)} {a b:Operand} {neg:Bool} (hop:o.op=.binOp (if neg then .neq else .eql) tp a b ty) (hu:P.underlying tp=some (.interface ms)) (hc:(isK a||isK b)=true) (x:Cx) (act:Act) (w:World) (v1 v1' v2 v2':Value) (r:Bool)
  (g1:VR x v1 v1') (g2:VR x v2 v2') (h:cmI v1 v2=some r) (h1:act.eval a=v1') (h2:act.eval b=v2'):(execOp act.eval o).run P w=.ok (.value (.bool (r != neg))) w:=by
 have hk:∀op:BinOp,∀t (w:World),(eqGuard op t a b .nilIface .nilIface).run P w=.ok () w:=by
  intro op t w
  cases a<;>cases b<;>first|(simp [isK] at hc;done)|(cases op<;>simp [eqGuard])
 cases g1<;>first|(cases h;done)|skip
 all_goals cases g2<;>first|(cases h;done)|skip
 all_goals
  refine Qi hop h1 h2 (by first|exact hk _ _ _|(cases neg<;>simp [eqGuard])) rfl ?_
  have key:∀d,(Op.equalIn (d+1) tp (act.eval a) (act.eval b)).run P w=.ok r w:=by
   intro d;rw [h1,h2];simp [cmI] at h;simp [Op.equalIn,run_underlying hu,h]
  have:=key 9999;rw [h1,h2] at this;exact this
end
end Go.Ev
namespace Go.Ev
open Go Go.Eng
set_option linter.unusedVariables false
section
variable {P:Program} {o:Oper}
theorem Xp {c:Call} {f:Operand} (hop:o.op=.call c) (hc:c.callee=.value f) (hf:OdIn o f) (ha:∀y∈c.args.toList,OdIn o y):C5 P o (fun run t s K=>xCv t s K run (od f) (c.args.toList.map od)):=by
 have hd:∀c,o.op≠.defer c:=fun c e=>by rw [hop] at e;cases e
 intro run t s K out hr ho h;have h:xCv t s K run (od f) (c.args.toList.map od)=some out:=h;unfold xCv at h;rw [Aj,Gk] at h
 split at h
 ·rename_i g p q e1
  obtain ⟨v,s',h1,h2⟩:=Hk h;obtain ⟨q1,q2,q3⟩:=hr.call g _ s v s' ho h1;refine ⟨v,s',q1,q2,h2,fun w0 H x w r act hp hF=>?_⟩;have g1:=Ai (a:=act) hF hf;rw [e1] at g1;generalize hx:act.eval f=fv at g1
  cases g1 with
  | func hy hp1 hq1 =>
   rename_i p' q'
   have hcall:=q3 w0 H x w _ hp (hp1.app ((Kt (a:=act) hF ha).app hq1));have e1:=hr.ent _ _ _ _ _ h1 (p'++c.args.map act.eval++q') w;have e2:(p'.toList++(c.args.toList.map act.eval++q'.toList)).toArray=p'++c.args.map act.eval++q':=by apply Array.toList_inj.1;simp
   unfold OpZ;rw [Oper.semAt_eq r act.eval o hd];have hrun:(execOp act.eval o).run P w=.ok (.enter g (p'.toList++(c.args.toList.map act.eval++q'.toList)).toArray) w:=by
    rw [e2];have e3:(resolve act.eval c o.type)=pure { target:=.fn (.func g) q',args:=p'++c.args.map act.eval }:=by
     unfold resolve;rw [hc];simp only;rw [hx];rfl
    unfold execOp;rw [hop];simp only [e3];simp only [pure_bind,invoke];exact e1
   rw [hrun];exact hcall
 ·rename_i l p q e1
  obtain ⟨v,s',h1,h2⟩:=Hk h;obtain ⟨q1,q2,q3⟩:=hr.yld l _ s v s' ho h1;refine ⟨v,s',q1,q2,h2,fun w0 H x w r act hp hF=>?_⟩;have g1:=Ai (a:=act) hF hf;rw [e1] at g1;generalize hx:act.eval f=fv at g1
  cases g1 with
  | func hy hp1 hq1=>exact absurd rfl (hy l)
  | yld hb =>
   rename_i b
   obtain ⟨g,tmps,asg,body,r1,r2⟩:=q3 w0 H x w _ b r hp (Kt (a:=act) hF ha) hb;unfold OpZ;rw [Oper.semAt_eq r act.eval o hd];have hrun:(execOp act.eval o).run P w=.ok (.round b g tmps asg body) w:=by
    have e2:(c.args.toList.map act.eval).toArray=#[]++c.args.map act.eval:=by apply Array.toList_inj.1;simp
    rw [e2] at r1;have e3:(resolve act.eval c o.type)=pure { target:=.fn (.yield b) #[],args:=#[]++c.args.map act.eval }:=by
     unfold resolve;rw [hc];simp only;rw [hx];rfl
    unfold execOp;rw [hop];simp only [e3];simp only [pure_bind,invoke];exact r1
   rw [hrun];exact r2
 ·cases h
theorem Gy (hd:∀c,o.op≠.defer c) (hs:∀cs b,o.op≠.select cs b) (hall:∀y∈o.op.operands.toList,OdIn o y):C5 P o (fun run t' s K=>xGn t' s K P o) :=
 Xu hd hs (by rw [List.all_eq_true];exact fun y hy=>(hall y hy).ok)
theorem Ql {op:BinOp} {C:Value→Value→Option Bool} {tp ty:TypeId} {a b:Operand} (hop:o.op=.binOp op tp a b ty) (ha:OdIn o a) (hb:OdIn o b) (hgn:C5 P o (fun run t' s K=>xGn t' s K P o))
  (hC:∀neg:Bool,o.op=.binOp (if neg then .neq else .eql) tp a b ty→∀(x:Cx) (act:Act) (w:World) (v1 v1' v2 v2':Value) (r:Bool),VR x v1 v1'→VR x v2 v2'→C v1 v2=some r→act.eval a=v1'→act.eval b=v2'→(execOp act.eval o).run P w=.ok (.value (.bool (r != neg))) w) :
  C5 P o (V6 P o op C a b):=by
 have hd:∀c,o.op≠.defer c:=fun c e=>by rw [hop] at e;cases e
 unfold V6
 cases op
 case eql=>exact Zn (neg:=false) hd (hC false hop) ha hb
 case neq=>exact Zn (neg:=true) hd (hC true hop) ha hb
 all_goals exact hgn
theorem Yk {op:BinOp} {tp ty:TypeId} {x y:Operand} (hop:o.op=.binOp op tp x y ty) (hall:∀y∈o.op.operands.toList,OdIn o y):C5 P o (Zz P o op tp x y):=by
 have hx:OdIn o x:=hall x (by rw [hop];simp [Op.operands]);have hy:OdIn o y:=hall y (by rw [hop];simp [Op.operands]);have hgn:C5 P o (fun run t' s K=>xGn t' s K P o):=Gy (fun c e=>by rw [hop] at e;cases e) (fun c b e=>by rw [hop] at e;cases e) hall
 unfold Zz;generalize hu:P.underlying tp=u
 cases u with
 | none=>exact hgn
 | some d =>
  cases d
  case int k =>
   cases op
   case add=>exact A0u hop hx hy
   case sub=>exact A11 hop hx hy
   case mul=>exact A0x hop hx hy
   case eql=>exact Ku (.inl rfl) hop hx hy
   case neq=>exact Ku (.inr (.inl rfl)) hop hx hy
   case lss=>exact Ku (.inr (.inr (.inl rfl))) hop hx hy
   case leq=>exact Ku (.inr (.inr (.inr (.inl rfl)))) hop hx hy
   case gtr=>exact Ku (.inr (.inr (.inr (.inr (.inl rfl))))) hop hx hy
   case geq=>exact Ku (.inr (.inr (.inr (.inr (.inr rfl))))) hop hx hy
   all_goals exact hgn
  case pointer e =>
   simp only;generalize hz:szT P e=z
   cases z with
   | none=>exact hgn
   | some z =>
    cases z with
    | zero=>exact hgn
    | succ z =>
     cases op
     case eql=>exact Xv (neg:=false) hop hu hz hx hy
     case neq=>exact Xv (neg:=true) hop hu hz hx hy
     all_goals exact hgn
  case slice e=>exact Ql hop hx hy hgn fun neg hop=>Kz hop hu
  case map k e=>exact Ql hop hx hy hgn fun neg hop=>Yw hop hu
  case func ps rs vr=>exact Ql hop hx hy hgn fun neg hop=>X7 hop hu
  case interface ms =>
   simp only
   cases hc:isK x||isK y with
   | false=>exact hgn
   | true=>exact Ql hop hx hy hgn fun neg hop=>Vk hop hu hc
  all_goals exact hgn
theorem map_some {α β:Type} {o:Option α} {f:α→β} {b:β} (h:o.map f=some b):∃a,o=some a∧f a=b:=Option.map_eq_some_iff.1 h
theorem Rb {c:Call} {b:Builtin} {F:XF} (hop:o.op=.call c) (hc:c.callee=.builtin b) (hall:∀y∈o.op.operands.toList,OdIn o y) (h:Me P o c b=some F):C5 P o F:=by
 have hargs:∀y∈c.args.toList,OdIn o y:=fun y hy=>hall y (by rw [hop];simp only [Op.operands,Call.operands,hc];simpa using hy);have hgn:C5 P o (fun run t' s K=>xGn t' s K P o):=Gy (fun c e=>by rw [hop] at e;cases e) (fun c b e=>by rw [hop] at e;cases e) hall
 unfold Me at h
 split at h
 ·rename_i t1 t2 x y e1 e2
  have hx:=hargs x (by rw [e2];simp);have hy:=hargs y (by rw [e2];simp)
  split at h
  ·rename_i e hu
   cases hb:Nat.beq t1 t2 with
   | false=>rw [hb] at h;cases h
   | true =>
    rw [hb] at h;simp only [cond_true] at h;have:=Nat.eq_of_beq_eq_true hb;subst this
    split at h
    ·rename_i i hi
     cases hz:zOk i with
     | false=>rw [hz] at h;cases h
     | true =>
      rw [hz] at h;simp only [cond_true,Option.some.injEq] at h;subst h;exact Vv hop hc e2 e1 hu hi hz hx hy
    ·cases h
  ·cases h
 ·cases h
 ·rename_i t1 ts x y e1 e2
  split at h
  ·rename_i e hu
   obtain ⟨z,hz,rfl⟩:=map_some h;exact Z2 hop hc e2 e1 hu hz (hargs x (by rw [e2];simp)) (hargs y (by rw [e2];simp))
  ·cases h
 ·cases h
 ·rename_i t1 ts x y e1 e2
  split at h
  ·rename_i kt e hu
   cases h
   exact Vw hop hc e2 e1 hu (hargs x (by rw [e2];simp)) (hargs y (by rw [e2];simp))
  ·cases h
 ·cases h
 ·rename_i t1 ts x e1 e2
  split at h
  ·rename_i e hu
   cases h
   exact A0w hop hc e2 e1 hu (hargs x (by rw [e2];simp))
  ·rename_i kt e hu
   cases h
   exact Vx hop hc e2 e1 hu (hargs x (by rw [e2];simp))
  ·cases h;exact hgn
 ·rename_i t1 ts x y e1 e2
  cases hi:Kp P t1 with
  | false=>rw [hi] at h;cases h;exact hgn
  | true=>rw [hi] at h;cases h;exact Xt (mn:=false) hop hc e2 (hargs x (by rw [e2];simp)) (hargs y (by rw [e2];simp))
 ·rename_i t1 ts x y e1 e2
  cases hi:Kp P t1 with
  | false=>rw [hi] at h;cases h;exact hgn
  | true=>rw [hi] at h;cases h;exact Xt (mn:=true) hop hc e2 (hargs x (by rw [e2];simp)) (hargs y (by rw [e2];simp))
 ·cases h;exact hgn
 ·cases h;exact hgn
 ·cases h
theorem A00 {F:XF} (h:cop P o=some F):C5 P o F:=by
 unfold cop at h
 cases hall:o.op.operands.toList.all okOd with
 | false=>rw [hall] at h;cases h
 | true =>
  rw [hall] at h;simp only [cond_true] at h;have hin:∀y∈o.op.operands.toList,OdIn o y:=fun y hy=>⟨List.all_eq_true.1 hall y hy,hy⟩;unfold A1i at h
  cases hop:o.op
  case move x=>rw [hop] at h;cases h;exact Un (.inl hop) (hin x (by rw [hop];simp [Op.operands]))
  case assign x=>rw [hop] at h;cases h;exact Un (.inr hop) (hin x (by rw [hop];simp [Op.operands]))
  case pick c a b=>rw [hop] at h;cases h;exact Z4 hop (hin c (by rw [hop];simp [Op.operands])) (hin a (by rw [hop];simp [Op.operands])) (hin b (by rw [hop];simp [Op.operands]))
  case load t a =>
   rw [hop] at h;simp only at h;have ha:=hin a (by rw [hop];simp [Op.operands])
   split at h
   ·rename_i hg
    obtain ⟨z,hz,rfl⟩:=map_some h;exact Um hop ha (.inl ⟨rfl,hg,hz⟩)
   ·rename_i hg
    cases h
    exact Um hop ha (.inr ⟨rfl,hg,rfl⟩)
   ·cases h
  case store t a v =>
   rw [hop] at h;obtain ⟨z,hz,rfl⟩:=map_some h;exact Xx hop (hin a (by rw [hop];simp [Op.operands])) (hin v (by rw [hop];simp [Op.operands])) hz
  case alloc t =>
   rw [hop] at h;obtain ⟨z,hz,rfl⟩:=map_some h;exact Xm hop hz
  case box t v=>rw [hop] at h;cases h;exact A0v hop (hin v (by rw [hop];simp [Op.operands]))
  case fieldAddr t x f =>
   rw [hop] at h;simp only at h
   split at h
   ·rename_i fs hu
    split at h
    ·rename_i fd hf
     split at h
     ·rename_i z hz
      cases h
      exact Xr hop hu hf hz (hin x (by rw [hop];simp [Op.operands]))
     ·cases h
    ·cases h
   ·cases h
  case indexAddr t x i =>
   rw [hop] at h;simp only at h;have hx:=hin x (by rw [hop];simp [Op.operands]);have hi:=hin i (by rw [hop];simp [Op.operands])
   split at h
   ·rename_i e hu
    obtain ⟨z,hz,rfl⟩:=map_some h;exact Xs hop hu hz hx hi
   ·rename_i n e hu
    obtain ⟨z,hz,rfl⟩:=map_some h;exact Xn hop hu hz hx hi
   ·cases h
  case binOp op tp x y ty=>rw [hop] at h;cases h;exact Yk hop hin
  case unOp op t x =>
   rw [hop] at h;have hx:=hin x (by rw [hop];simp [Op.operands]);have hgn:C5 P o (fun run t' s K=>xGn t' s K P o):=Gy (fun c e=>by rw [hop] at e;cases e) (fun c b e=>by rw [hop] at e;cases e) hin
   cases op
   case not=>cases h;exact A10 hop hx
   case neg =>
    simp only [Option.some.injEq] at h
    cases hi:Kp P t with
    | true=>rw [hi] at h;simp only [if_true] at h;subst h;exact A0y hop hx
    | false=>rw [hi] at h;simp only [Bool.false_eq_true,if_false] at h;subst h;exact hgn
   all_goals (simp only [Pr,cond_true,Option.some.injEq] at h;subst h;exact hgn)
  case nilCheck x=>rw [hop] at h;cases h;exact A0z hop (hin x (by rw [hop];simp [Op.operands]))
  case extract x i=>rw [hop] at h;cases h;exact Ts hop (hin x (by rw [hop];simp [Op.operands]))
  case field t x f =>
   rw [hop] at h;simp only at h;have hx:=hin x (by rw [hop];simp [Op.operands])
   split at h
   ·rename_i fs hu
    split at h
    ·rename_i fd hf
     split at h
     ·rename_i hg
      obtain ⟨z,hz,rfl⟩:=map_some h;exact Uo hop hu hf (.inl ⟨rfl,hg,hz⟩) hx
     ·rename_i hg
      cases h
      exact Uo hop hu hf (.inr ⟨rfl,hg,rfl⟩) hx
     ·cases h
    ·cases h
   ·cases h
  case build t ps =>
   rw [hop] at h;simp only at h
   cases hb:(P.built t []).isSome with
   | false=>rw [hb] at h;cases h
   | true =>
    rw [hb] at h;simp only [cond_true] at h
    cases hz:zrT P t with
    | none=>rw [hz] at h;cases h
    | some z =>
     rw [hz] at h;simp only [Option.bind_some] at h;obtain ⟨l,hl,rfl⟩:=map_some h;exact Xo hop hb hz hl fun p hp=>hin p.2 (by rw [hop];simp only [Op.operands];simpa using ⟨p.1,by simpa using hp⟩)
  case buildSlice t len ps =>
   rw [hop] at h;simp only at h
   split at h
   ·rename_i e hu
    cases hz:szT P e with
    | none=>rw [hz] at h;cases h
    | some z =>
     rw [hz] at h;simp only [Option.bind_some] at h;obtain ⟨v,hv,rfl⟩:=map_some h;exact P0 hop hu hz hv fun p hp=>hin p.2 (by rw [hop];simp only [Op.operands];simpa using ⟨p.1,by simpa using hp⟩)
   ·cases h
  case makeFunc fn a b =>
   rw [hop] at h
   cases fn
   case func f =>
    cases h
    exact Z3 hop (fun y hy=>hin y (by rw [hop];simp only [Op.operands];simp only [Array.toList_append,List.mem_append];exact .inl hy)) (fun y hy=>hin y (by rw [hop];simp only [Op.operands];simp only [Array.toList_append,List.mem_append];exact .inr hy))
   all_goals (simp [Pr] at h)
  case makeSlice t l c =>
   rw [hop] at h;simp only at h
   split at h
   ·rename_i e hu
    cases hb:(P.info? e).any (fun i=>Nat.ble i.bytes 1000000000) with
    | false=>rw [hb] at h;cases h
    | true =>
     rw [hb] at h;simp only [cond_true] at h;obtain ⟨v,hv,rfl⟩:=map_some h;exact Qo hop hu hb hv (hin l (by rw [hop];simp [Op.operands])) (hin c (by rw [hop];simp [Op.operands]))
   ·cases h
  case makeMap t r =>
   rw [hop] at h
   cases r with
   | none=>cases h;exact Tt hop
   | some r=>simp [Pr] at h
  case lookup t m k ok =>
   rw [hop] at h;simp only at h
   split at h
   ·rename_i kt e hu
    obtain ⟨z,hz,rfl⟩:=map_some h;exact Vy hop hu hz (hin m (by rw [hop];simp [Op.operands])) (hin k (by rw [hop];simp [Op.operands]))
   ·cases h
  case mapUpdate t m k v =>
   rw [hop] at h;simp only at h
   split at h
   ·rename_i kt e hu
    cases h
    exact Po (.inl hop) hu (hin m (by rw [hop];simp [Op.operands])) (hin k (by rw [hop];simp [Op.operands])) (hin v (by rw [hop];simp [Op.operands]))
   ·cases h
  case insert t m k v =>
   rw [hop] at h;simp only at h
   split at h
   ·rename_i kt e hu
    cases h
    exact Po (.inr hop) hu (hin m (by rw [hop];simp [Op.operands])) (hin k (by rw [hop];simp [Op.operands])) (hin v (by rw [hop];simp [Op.operands]))
   ·cases h
  case mapEntry t m k =>
   rw [hop] at h;simp only at h
   split at h
   ·rename_i kt e hu
    obtain ⟨z,hz,rfl⟩:=map_some h;exact Xq hop hu hz (hin m (by rw [hop];simp [Op.operands])) (hin k (by rw [hop];simp [Op.operands]))
   ·cases h
  case entryStore t m i v=>rw [hop] at h;cases h;exact P1 hop (hin m (by rw [hop];simp [Op.operands])) (hin i (by rw [hop];simp [Op.operands])) (hin v (by rw [hop];simp [Op.operands]))
  case slice t x lo hi mx =>
   rw [hop] at h;simp only at h;have hgn:C5 P o (fun run t' s K=>xGn t' s K P o):=Gy (fun c e=>by rw [hop] at e;cases e) (fun c b e=>by rw [hop] at e;cases e) hin
   split at h
   ·rename_i e hu
    cases hm:(mx.isNone||hi.isSome) with
    | false=>rw [hm] at h;cases h
    | true =>
     rw [hm] at h;simp only [cond_true] at h;obtain ⟨z,hz,rfl⟩:=map_some h;exact Xw hop hu hz hm (hin x (by rw [hop];simp [Op.operands])) (fun y hy=>hin y (by rw [hop,hy];simp [Op.operands])) (fun y hy=>hin y (by rw [hop,hy];simp [Op.operands])) (fun y hy=>hin y (by rw [hop,hy];simp [Op.operands]))
   ·cases h;exact hgn
   ·cases h
  case call c =>
   rw [hop] at h;simp only at h
   cases hc:c.callee with
   | builtin b=>rw [hc] at h;exact Rb hop hc hin h
   | value f =>
    have hargs:∀y∈c.args.toList,OdIn o y:=fun y hy=>hin y (by rw [hop];simp only [Op.operands,Call.operands,hc];simp only [Array.toList_append,List.mem_append];exact .inr hy);have hf:OdIn o f:=hin f (by rw [hop];simp only [Op.operands,Call.operands,hc];simp);rw [hc] at h
    cases f
    case func f=>cases h;exact Z1 hop hc hargs
    all_goals (simp only [Option.some.injEq] at h;subst h;exact Xp hop hc hf hargs)
   | invoke r n=>rw [hc] at h;cases h
  all_goals (rw [hop] at h;first|(simp [Pr] at h;done)|(simp only [Pr,cond_true,Option.some.injEq] at h;subst h;exact Gy (fun c e=>by rw [hop] at e;cases e) (fun c b e=>by rw [hop] at e;cases e) hin))
end
end Go.Ev
