import Derived.Test.YtbhjgebjojdohaaW3t12VB
import Derived.LoopNIn
import Derived.RangeFuncLeaves
set_option linter.unusedVariables false
set_option linter.unusedSimpArgs false
set_option linter.unusedSectionVars false
namespace Go.Ev
open Go Go.Eng
set_option linter.unusedVariables false
section
variable {P:Program} {r:Option Nat} {ops:Array Oper} {Q:Exit→Act→World→Prop} {a:Act} {w:World}
theorem OpZ.wpIn {o:Oper} {R:Value→World→Prop} {K:Act→World→Prop} (h:OpZ P r o a w R) (hk:∀v w',R v w'→K (a.put o.dst v) w'):o.wpIn (F0 r) 0 P a w K Q:=by
 refine ⟨fun _ _=>trivial,?_⟩;unfold OpZ at h
 change o.uponIn (F0 r) 0 P a K Q ((o.semAt r a.eval).run P w)
 generalize (o.semAt r a.eval).run P w=res at *
 cases res with
 | ok x w' =>
  cases x<;>simp only [Oper.uponIn] at h ⊢<;>first|exact hk _ _ h|exact h.elim|skip
  case enter f args =>
   refine ⟨fun h=>by simp [F0,Fence.wide] at h,E3.2 ?_⟩;refine Calls.mono h ?_;rintro e w'' ⟨v,rfl,hr⟩;exact hk _ _ hr
  case round l f tmps assign body =>
   refine ⟨fun h=>by simp [F0,Fence.wide] at h,?_⟩;refine RoundIn.mono h ?_;rintro e w'' ⟨v,rfl,hr⟩;exact hk _ _ hr
 | halt x w'=>simp only at h
def OpGZ (P:Program) (r:Option Nat) (ops:Array Oper) (o:Oper) (a:Act) (w:World) (R:Value→World→Prop):Prop :=
 if Region.wanted o (yielded ops a.tmps) then OpZ P r o a w R else R undef w
theorem OpGZ.wpOpIn {o:Oper} {i:Nat} {R:Value→World→Prop} {K:Act→World→Prop} (ho:ops[i]? = some o) (h:OpGZ P r ops o a w R) (hk:∀v w',R v w'→K (a.put o.dst v) w') :
  wpOpIn (F0 r) 0 P ops Q i K a w:=by
 unfold Go.wpOpIn OpGZ at *;rw [ho];simp only
 split
 ·rename_i hw
  rw [if_pos hw] at h;exact OpZ.wpIn h hk
 ·rename_i hw
  rw [if_neg hw] at h;exact ⟨fun _ _=>trivial,hk _ _ h⟩
theorem WI.consZ {i:Nat} {o:Oper} {R:Value→World→Prop} (ho:ops[i]? = some o) (h:OpGZ P r ops o a w R) (hk:∀v w',R v w'→WI P r ops Q (i+1) (a.put o.dst v) w'):WI P r ops Q i a w:=by
 have hi:i<ops.size:=(Array.getElem?_eq_some_iff.1 ho).1;have e:List.range' i (ops.size-i)=i::List.range' (i+1) (ops.size-(i+1)):=by
  rw [show ops.size-i=(ops.size-(i+1))+1 by omega,List.range'_succ]
 unfold WI;rw [e,wpOpsIn_cons];exact h.wpOpIn ho hk
end
def MkR (x:Cx) (n:Nat) (d:Deferred):Prop:=∃b,x.ρ n=some ⟨b,0,none⟩∧d=⟨.collected b,#[]⟩
structure FrR (x:Cx) (N:Nat) (t:Fm) (ms:List Nat) (a:Act):Prop where
 frm:FrmR x t a.tmps
 size:a.tmps.size=N
 marks:A2 (MkR x) ms a.defers
section
variable {x y:Cx} {N:Nat} {t:Fm} {ms:List Nat} {a:Act} {P:Program} {o:Oper} {ops:Array Oper}
theorem MkR.mono (hx:x.le y) {n:Nat} {d:Deferred} (h:MkR x n d):MkR y n d:=by
 obtain ⟨b,h1,h2⟩:=h;exact ⟨b,(hx.1 _ _ h1).1,h2⟩
theorem FrR.mono (hx:x.le y) (h:FrR x N t ms a):FrR y N t ms a:=⟨h.frm.mono hx,h.size,h.marks.imp fun _ _ q=>q.mono hx⟩
theorem Us (t:Fm) (d:Option Tmp) (v:Value) (K:Fm→Option Out):t.putK d v K=K (t.put d v):=by
 cases d with
 | none=>rfl
 | some d=>show pu t v K d=_;unfold pu;rw [H0];rfl
theorem Ew (t:Fm) (d:Tmp) (v:Value):(t.put (some d) v).g (pn d)=some v:=Fy _ _ _
theorem Eg {t:Fm} {d:Option Tmp} {v:Value} {i:Nat} (h:d≠some i):(t.put d v).g (pn i)=t.g (pn i):=by
 cases d with
 | none=>rfl
 | some d=>exact Di _ _ (fun e=>h (by rw [e]))
theorem FrmR.put {d:Option Tmp} {v v':Value} (h:FrmR x t a.tmps) (hv:VR x v v') (hd:∀q,d=some q→q<a.tmps.size):FrmR x (t.put d v) (a.put d v').tmps:=by
 intro i
 by_cases e:d=some i
 ·subst e;rw [Ew,Fq (hd i rfl)];exact hv
 ·rw [Eg e,Du e];exact h i
theorem FrR.put {d:Option Tmp} {v v':Value} (h:FrR x N t ms a) (hv:VR x v v') (hd:∀q,d=some q→q<N):FrR x N (t.put d v) ms (a.put d v') :=
 ⟨h.frm.put hv (by rw [h.size];exact hd),by rw [Ex];exact h.size,by rw [Dq];exact h.marks⟩
theorem FrmR.env (h:FrmR x t a.tmps):EnvR x t a o:=fun y hy=>Ms h hy.ok
theorem Zd {j:Nat} (h:∀o d,ops[j]? = some o→o.dst=some d→VR x ((t.g (pn d)).getD undef) (a.tmps.getD d undef)):yv ops t j=yielded ops a.tmps j:=by
 unfold yv yielded;rw [Array.getElem?_toList]
 cases ho:ops[j]? with
 | none=>rfl
 | some o =>
  cases hd:o.dst with
  | none=>simp [oO,hd]
  | some d =>
   have:=h o d ho hd;simp only [Option.bind_some,hd];have e0:(oO (some o) fun o=>oO o.dst fun d=>oO (t.g (pn d)) fun v=>vB v some)=oO (t.g (pn d)) (fun v=>vB v some):=by
    show (oO o.dst fun d=>oO (t.g (pn d)) fun v=>vB v some)=_;rw [hd];rfl
   rw [e0]
   cases ht:t.g (pn d) with
   | none =>
    rw [ht] at this;simp only [Option.getD_none] at this;show none=_;rw [Array.getD_eq_getD_getElem?] at this
    cases hg:a.tmps[d]? with
    | none=>rfl
    | some v' =>
     rw [hg] at this;simp only [Option.getD_some] at this;unfold undef at this
     cases this
     rfl
   | some v =>
    rw [ht] at this;simp only [Option.getD_some] at this;show vB v some=_;rw [Array.getD_eq_getD_getElem?] at this
    cases hg:a.tmps[d]? with
    | none =>
     rw [hg] at this;simp only [Option.getD_none] at this;unfold undef at this
     cases this
     rfl
    | some v' =>
     rw [hg] at this;simp only [Option.getD_some] at this
     cases this<;>rfl
theorem Nw (h:∀g,o.guard=some g→∀o' d,ops[g.1]? = some o'→o'.dst=some d→VR x ((t.g (pn d)).getD undef) (a.tmps.getD d undef)):V0 ops o t=Region.wanted o (yielded ops a.tmps):=by
 unfold V0 Region.wanted
 cases hg:o.guard with
 | none=>rfl
 | some g =>
  obtain ⟨j,want⟩:=g;have:=Zd (h (j,want) hg);simp only;rw [←this]
  cases yv ops t j with
  | none=>rfl
  | some b=>cases b<;>cases want<;>rfl
theorem U9 {run:Rn} {s:S} {K:Value→S→Option Out} {out:Out} (hr:RunOk P run) (ho:s.Ok) (h:Rf P run ops t o s K=some out) :
  ∃v s',Stp s s'∧s'.Ok∧K v s'=some out∧∀(w0:World) (H:Mem) (x:Cx) (w:World) (r:Option Nat) (a:Act),Pre P w0 s s' H x w→EnvR x t a o →
   (∀g,o.guard=some g→∀o' d,ops[g.1]? = some o'→o'.dst=some d→VR x ((t.g (pn d)).getD undef) (a.tmps.getD d undef))→OpGZ P r ops o a w (Post P w0 s s' v H x):=by
 unfold Rf at h
 cases hw:V0 ops o t with
 | false =>
  rw [hw] at h;refine ⟨undef,s,Stp.refl s,ho,h,fun w0 H x w r a hp hE hg=>?_⟩;unfold OpGZ;rw [←Nw hg,hw];exact hp.post0 ho .undef
 | true =>
  rw [hw] at h;obtain ⟨F,hF,h⟩:=Au h;obtain ⟨v,s',h1,h2,h3,h4⟩:=A00 hF run t s K out hr ho h;refine ⟨v,s',h1,h2,h3,fun w0 H x w r a hp hE hg=>?_⟩;unfold OpGZ;rw [←Nw hg,hw];exact h4 w0 H x w r a hp hE
theorem Tb {run:Rn} {ms:List Nat} {l:List Oper} {s:S}:Rh P run ops ms (o::l) t s=Rf P run ops t o s (fun v s'=>Rh P run ops ms l (t.put o.dst v) s'):=by
 show Rf P run ops t o s (ko1 (Rh P run ops ms l) t o.dst)=_
 congr 1
 funext v s'
 unfold ko1;rw [Us];rfl
theorem X0 {run:Rn} (hr:RunOk P run):∀(l:List Oper) (k:Nat),(∀j,l[j]? = ops[k+j]?)→k+l.length=ops.size→∀(t:Fm) (s:S) (out:Out),s.Ok→Rh P run ops ms l t s=some out →
  ∃t' s',out=.norm t' ms s'∧Stp s s'∧s'.Ok∧∀(N:Nat),Al ops N=true→∀(w0:World) (H:Mem) (x:Cx) (w:World) (a:Act) (r:Option Nat) (Q:Exit→Act→World→Prop),Pre P w0 s s' H x w→FrR x N t ms a →
   (∀y a' w',x.to y s.c s'.c→Rel P w0.heap.size y (Over s s' H) w'→Ext w0 w'→FrR y N t' ms a'→Q .normal a' w')→WI P r ops Q k a w:=by
 intro l
 induction l with
 | nil =>
  intro k hl hk t s out ho h;have h:some (Out.norm t ms s)=some out:=h
  cases h
  refine ⟨t,s,rfl,Stp.refl s,ho,fun N hdst w0 H x w a r Q hp hF hQ=>?_⟩;simp only [List.length_nil,Nat.add_zero] at hk;subst hk;refine WI.nil (hQ x a w (x.to_refl _ _) ?_ hp.ext hF);rw [E6 ho fun p hpp=>(hp.W ho (Stp.refl s) p hpp).1];exact hp.rel
 | cons o l ih =>
  intro k hl hk t s out ho h;rw [Tb] at h;obtain ⟨v,s1,h1,h2,h3,h4⟩:=U9 hr ho h;have hok:ops[k]? = some o:=by have:=hl 0;simpa using this.symm
  obtain ⟨t',s',e1,g1,g2,g3⟩:=ih (k+1) (fun j=>by have:=hl (j+1);rw [show k+1+j=k+(j+1) by omega,←this];rfl) (by simp only [List.length_cons] at hk;omega) _ s1 out h2 h3;refine ⟨t',s',e1,h1.trans g1,g2,fun N hdst w0 H x w a r Q hp hF hQ=>?_⟩;refine WI.consZ hok (h4 w0 H x w r a (hp.first h1 g1) hF.frm.env (fun g _ o' d _ _=>hF.frm d)) ?_;rintro v' w' ⟨y,y1,y2,y3,y4⟩;refine g3 N hdst w0 (Over s s1 H) y w' _ r Q (hp.next h1 g1 h2 y1 y3 y4) ((hF.mono y1.le).put y2 fun q hq=>?_) fun z a' w'' z1 z2 z3 z4=>?_
  ·exact D3 hdst hok hq
  ·exact hQ z a' w'' (Cx.to_trans y1 z1 h1.c g1.c) (by rw [←Over.trans h1 g1];exact z2) z3 z4
end
end Go.Ev
namespace Go.Ev
open Go Go.Eng
set_option linter.unusedVariables false
structure Rc where
 t:Fm
 s0:S
 s1:S
 v:Value
def Rc.wr (rc:Rc) (p:Nat):Prop:=(rc.s0.c≤p∧p<rc.s1.c)∨rc.s1.W.testBit p=true
structure RcOk (P:Program) (ops:Array Oper) (o:Oper) (rc:Rc):Prop where
 stp:Stp rc.s0 rc.s1
 ok:rc.s1.Ok
 real:∀(w0:World) (H:Mem) (x:Cx) (w:World) (r:Option Nat) (a:Act),Pre P w0 rc.s0 rc.s1 H x w→EnvR x rc.t a o →
  (∀g,o.guard=some g→∀o' d,ops[g.1]? = some o'→o'.dst=some d→VR x ((rc.t.g (pn d)).getD undef) (a.tmps.getD d undef))→OpGZ P r ops o a w (Post P w0 rc.s0 rc.s1 rc.v H x)
inductive DT (P:Program) (ops:Array Oper):Nat→Fm→S→List Rc→Fm→S→Prop
 | nil {i:Nat} {t:Fm} {s:S}:DT P ops i t s [] t s
 | cons {i:Nat} {t:Fm} {s:S} {rc:Rc} {l:List Rc} {t':Fm} {s':S} {o:Oper} (ho:ops[i]? = some o) (hrc:RcOk P ops o rc) (ht:rc.t=t) (hs:rc.s0=⟨s.h,s.c,0,0,true⟩)
   (rest:DT P ops (i+1) (t.put o.dst rc.v) ⟨rc.s1.h,rc.s1.c,s.T ||| rc.s1.T,s.W ||| rc.s1.W,s.m⟩ l t' s'):DT P ops i t s (rc::l) t' s'
def CF (ops:Array Oper) (l:List Rc):Prop:=∀k j rk rj,k<j→l[k]? = some rk→l[j]? = some rj→Anc ops k j∨((∀p,rk.wr p→rj.s1.T.testBit p=true→False)∧∀p,rj.s1.W.testBit p=true→rk.s1.T.testBit p=true→False)
noncomputable def HD (D:Nat→Bool):List Rc→Nat→Mem→Mem
 | [],_,H=>H
 | rc::l,i,H=>HD D l (i+1) (if D i=true then Over rc.s0 rc.s1 H else H)
noncomputable def FD (ops:Array Oper) (D:Nat→Bool):List Rc→Nat→Fm→Fm
 | [],_,t=>t
 | rc::l,i,t=>FD ops D l (i+1) (if D i=true then t.put (dstAt ops i) rc.v else t)
section
variable {P:Program} {ops:Array Oper} {p d:Nat}
theorem Hf {rc:Rc} {H:Mem} (h:rc.wr p):Over rc.s0 rc.s1 H p=rc.s1.get p:=if_pos h
theorem Fp {rc:Rc} {H:Mem} (h:¬rc.wr p):Over rc.s0 rc.s1 H p=H p:=if_neg h
theorem M4 {D D':Nat→Bool}:∀(l:List Rc) (i:Nat) (H H':Mem),H p=H' p→(∀k rk,l[k]? = some rk→rk.wr p→D (i+k)=D' (i+k))→HD D l i H p=HD D' l i H' p
 | [],_,_,_,h,_=>h
 | rc::l,i,H,H',h,hd=>by
  show HD D l (i+1) _ p=HD D' l (i+1) _ p;refine M4 l (i+1) _ _ ?_ (fun k rk hk hw=>by have:=hd (k+1) rk (by simpa using hk) hw;rwa [show i+(k+1)=i+1+k by omega] at this)
  by_cases hw:rc.wr p
  ·have:=hd 0 rc (by simp) hw;rw [Nat.add_zero] at this;rw [this]
   split
   ·rw [Hf hw,Hf hw]
   ·exact h
  ·have e1:∀(b:Prop) [Decidable b] (H:Mem),(if b then Over rc.s0 rc.s1 H else H) p=H p:=fun b _ H=>by
    split
    ·exact Fp hw
    ·rfl
   rw [e1,e1];exact h
theorem Ln {D:Nat→Bool}:∀(l:List Rc) (i:Nat) (H:Mem),(∀k rk,l[k]? = some rk→D (i+k)=true→¬rk.wr p)→HD D l i H p=H p
 | [],_,_,_=>rfl
 | rc::l,i,H,h=>by
  show HD D l (i+1) _ p=_;rw [Ln l (i+1) _ (fun k rk hk hd=>h (k+1) rk (by simpa using hk) (by rwa [show i+(k+1)=i+1+k by omega]))]
  split
  ·rename_i hD
   exact Fp (h 0 rc (by simp) (by simpa using hD))
  ·rfl
theorem P6 {D:Nat→Bool} {rcj:Rc}:∀(l:List Rc) (i j:Nat) (H:Mem),l[j]? = some rcj→D (i+j)=false→(rcj.wr p→∀m rm,j<m→l[m]? = some rm→D (i+m)=true→¬rm.wr p) →
  Over rcj.s0 rcj.s1 (HD D l i H) p=HD (fun k=>D k||k==i+j) l i H p
 | [],i,j,H,h,_,_=>by simp at h
 | rc::l,i,0,H,h,hD,hl=>by
  simp only [List.getElem?_cons_zero,Option.some.injEq] at h;subst h;rw [Nat.add_zero] at hD;show _=HD _ l (i+1) (if (D i||i==i+0)=true then Over rc.s0 rc.s1 H else H) p;rw [if_pos (by simp)]
  by_cases hw:rc.wr p
  ·rw [Hf hw];rw [Ln l (i+1) _ (fun k rk hk hd=>hl hw (k+1) rk (by omega) (by simpa using hk) (by
    simp only [Nat.add_zero,Bool.or_eq_true,beq_iff_eq] at hd;rcases hd with q|q
    ·rwa [show i+(k+1)=i+1+k by omega]
    ·omega))]
   rw [Hf hw]
  ·rw [Fp hw];show HD D l (i+1) (if D i=true then Over rc.s0 rc.s1 H else H) p=_;rw [if_neg (by rw [hD];simp)];refine M4 l (i+1) _ _ (Fp hw).symm (fun k rk hk hw'=>?_);have:(i+1+k==i+0)=false:=by simp;omega
   simp only [this,Bool.or_false]
 | rc::l,i,j+1,H,h,hD,hl=>by
  have:=P6 l (i+1) j (if D i=true then Over rc.s0 rc.s1 H else H) (by simpa using h) (by rwa [show i+1+j=i+(j+1) by omega]) (fun hw m rm hm hrm hd=>hl hw (m+1) rm (by omega) (by simpa using hrm) (by rwa [show i+(m+1)=i+1+m by omega]));show Over rcj.s0 rcj.s1 (HD D l (i+1) (if D i=true then Over rc.s0 rc.s1 H else H)) p=HD _ l (i+1) (if (D i||i==i+(j+1))=true then Over rc.s0 rc.s1 H else H) p;have e:(i==i+(j+1))=false:=by simp
  rw [e,Bool.or_false,this,show i+1+j=i+(j+1) by omega]
theorem M3 {D D':Nat→Bool}:∀(l:List Rc) (i:Nat) (t t':Fm),t.g (pn d)=t'.g (pn d)→(∀k rk,l[k]? = some rk→dstAt ops (i+k)=some d→D (i+k)=D' (i+k))→(FD ops D l i t).g (pn d)=(FD ops D' l i t').g (pn d)
 | [],_,_,_,h,_=>h
 | rc::l,i,t,t',h,hd=>by
  show (FD ops D l (i+1) _).g (pn d)=(FD ops D' l (i+1) _).g (pn d);refine M3 l (i+1) _ _ ?_ (fun k rk hk hw=>by have:=hd (k+1) rk (by simpa using hk) (by rwa [show i+(k+1)=i+1+k by omega]);rwa [show i+(k+1)=i+1+k by omega] at this)
  by_cases hw:dstAt ops i=some d
  ·have:=hd 0 rc (by simp) (by simpa using hw);rw [Nat.add_zero] at this;rw [this]
   split
   ·rw [hw,Ew,Ew]
   ·exact h
  ·have e1:∀(b:Prop) [Decidable b] (t:Fm),(if b then t.put (dstAt ops i) rc.v else t).g (pn d)=t.g (pn d):=fun b _ t=>by
    split
    ·exact Eg hw
    ·rfl
   rw [e1,e1];exact h
theorem P5 {D:Nat→Bool} {rcj:Rc}:∀(l:List Rc) (i j:Nat) (t:Fm),l[j]? = some rcj→D (i+j)=false→(dstAt ops (i+j)=some d→∀m rm,j<m→l[m]? = some rm→D (i+m)=true→dstAt ops (i+m)≠some d) →
  ((FD ops D l i t).put (dstAt ops (i+j)) rcj.v).g (pn d)=(FD ops (fun k=>D k||k==i+j) l i t).g (pn d)
 | [],i,j,t,h,_,_=>by simp at h
 | rc::l,i,0,t,h,hD,hl=>by
  simp only [List.getElem?_cons_zero,Option.some.injEq] at h;subst h;rw [Nat.add_zero] at hD hl;show ((FD ops D l (i+1) (if D i=true then t.put (dstAt ops i) rc.v else t)).put (dstAt ops (i+0)) rc.v).g (pn d)=(FD ops _ l (i+1) (if (D i||i==i+0)=true then t.put (dstAt ops i) rc.v else t)).g (pn d);rw [if_pos (show (D i||i==i+0)=true by simp),if_neg (by rw [hD];simp)];simp only [Nat.add_zero]
  by_cases hw:dstAt ops i=some d
  ·rw [hw,Ew];have key:∀(l:List Rc) (i0:Nat) (t:Fm),(∀k rk,l[k]? = some rk→(D (i0+k)||i0+k==i)=true→dstAt ops (i0+k)≠some d)→(FD ops (fun k=>D k||k==i) l i0 t).g (pn d)=t.g (pn d):=by
    intro l
    induction l with
    | nil=>intro _ _ _;rfl
    | cons r l ih =>
     intro i0 t hn;show (FD ops _ l (i0+1) _).g (pn d)=_;rw [ih (i0+1) _ (fun k rk hk hd=>by have:=hn (k+1) rk (by simpa using hk);rw [show i0+(k+1)=i0+1+k by omega] at this;exact this hd)]
     split
     ·rename_i hD0
      exact Eg (by have:=hn 0 r (by simp);rw [Nat.add_zero] at this;exact this hD0)
     ·rfl
   rw [key l (i+1) _ (fun k rk hk hd=>by
    have:(i+1+k==i)=false:=by simp;omega
    rw [this,Bool.or_false] at hd;have:=hl hw (k+1) rk (by omega) (by simpa using hk) (by rwa [show i+(k+1)=i+1+k by omega])
    rwa [show i+(k+1)=i+1+k by omega] at this)]
   rw [Ew]
  ·rw [Eg hw];refine M3 l (i+1) _ _ (Eg hw).symm (fun k rk hk hw'=>?_);have:(i+1+k==i)=false:=by simp;omega
   simp only [this,Bool.or_false]
 | rc::l,i,j+1,t,h,hD,hl=>by
  have:=P5 l (i+1) j (if D i=true then t.put (dstAt ops i) rc.v else t) (by simpa using h) (by rwa [show i+1+j=i+(j+1) by omega]) (fun hw m rm hm hrm hd=>by
   rw [show i+1+m=i+(m+1) by omega];exact hl (by rwa [show i+1+j=i+(j+1) by omega] at hw) (m+1) rm (by omega) (by simpa using hrm) (by rwa [show i+(m+1)=i+1+m by omega]))
  show ((FD ops D l (i+1) (if D i=true then t.put (dstAt ops i) rc.v else t)).put (dstAt ops (i+(j+1))) rcj.v).g (pn d)=(FD ops _ l (i+1) (if (D i||i==i+(j+1))=true then t.put (dstAt ops i) rc.v else t)).g (pn d);have e:(i==i+(j+1))=false:=by simp
  rw [e,Bool.or_false];rw [show i+1+j=i+(j+1) by omega] at this;exact this
variable {t t':Fm} {s s':S} {l:List Rc} {i:Nat}
theorem DT.mono (h:DT P ops i t s l t' s'):s.c≤s'.c∧∀(k:Nat) (rk:Rc),l[k]? = some rk→s.c≤rk.s0.c∧rk.s0.c≤rk.s1.c∧rk.s1.c≤s'.c:=by
 induction h with
 | nil=>exact ⟨Nat.le_refl _,fun k rk hk=>by simp at hk⟩
 | cons ho hrc ht hs rest ih =>
  have h1:=hrc.stp.c;rw [hs] at h1;have h1:_≤_:=h1;simp only at h1 ih;refine ⟨by omega,fun k rk hk=>?_⟩
  cases k with
  | zero =>
   simp at hk;subst hk;rw [hs];simp only;omega
  | succ k =>
   have:=ih.2 k rk (by simpa using hk);omega
theorem DT.apart (h:DT P ops i t s l t' s'):∀(k j:Nat) (rk rj:Rc),k<j→l[k]? = some rk→l[j]? = some rj→rk.s1.c≤rj.s0.c:=by
 induction h with
 | nil=>intro k j rk rj _ hk;simp at hk
 | cons ho hrc ht hs rest ih =>
  intro k j rk rj hkj hk hj;obtain ⟨j,rfl⟩:∃j',j=j'+1:=⟨j-1,by omega⟩
  cases k with
  | zero =>
   simp at hk;subst hk;exact (rest.mono.2 j rj (by simpa using hj)).1
  | succ k=>exact ih k j rk rj (by omega) (by simpa using hk) (by simpa using hj)
theorem DT.at (h:DT P ops i t s l t' s'):∀(k:Nat) (rk:Rc),l[k]? = some rk→∃o,ops[i+k]? = some o∧RcOk P ops o rk∧rk.s0.T=0∧rk.s0.W=0∧rk.s0.m=true:=by
 induction h with
 | nil=>intro k rk hk;simp at hk
 | cons ho hrc ht hs rest ih =>
  intro k rk hk
  cases k with
  | zero=>simp at hk;subst hk;exact ⟨_,by simpa using ho,hrc,by rw [hs],by rw [hs],by rw [hs]⟩
  | succ k =>
   obtain ⟨o,h1,h2⟩:=ih k rk (by simpa using hk);exact ⟨o,by rw [←h1];congr 1;omega,h2⟩
theorem DT.textH (h:DT P ops i t s l t' s'):∀(j:Nat) (rj:Rc) (H:Mem),l[j]? = some rj→p<rj.s0.c→(p<s.c→H p=s.get p)→HD (fun k=>Nat.blt k (i+j)) l i H p=rj.s0.get p:=by
 induction h with
 | nil=>intro j rj H hj;simp at hj
 | cons ho hrc ht hs rest ih =>
  rename_i i t s rc l t' s' o
  intro j rj H hj hp hH
  cases j with
  | zero =>
   simp at hj;subst hj;rw [Ln]
   ·rw [hs] at hp ⊢;exact hH hp
   ·intro k rk hk hd;simp only [Nat.blt_eq] at hd;omega
  | succ j =>
   show HD _ l (i+1) (if Nat.blt i (i+(j+1))=true then Over rc.s0 rc.s1 H else H) p=_;rw [if_pos (by rw [Nat.blt_eq];omega)];have:=ih j rj (Over rc.s0 rc.s1 H) (by simpa using hj) hp (fun hlt=>by
    show _=rc.s1.get p;have hlt:p<rc.s1.c:=hlt
    by_cases hw:rc.wr p
    ·exact Hf hw
    ·rw [Fp hw];have hps:p<s.c:=by
      rcases Nat.lt_or_ge p s.c with q|q
      ·exact q
      ·exact absurd (.inl ⟨by rw [hs];exact q,hlt⟩) hw
     rw [hH hps,hrc.stp.same p (by rw [hs];exact hps) (Be fun e=>hw (.inr e)),hs];rfl)
   rw [←this]
   congr 1
   funext k
   rw [show i+1+j=i+(j+1) by omega]
theorem DT.textF (h:DT P ops i t s l t' s'):∀(j:Nat) (rj:Rc),l[j]? = some rj→FD ops (fun k=>Nat.blt k (i+j)) l i t=rj.t:=by
 have none:∀(l:List Rc) (i n:Nat) (t:Fm),n≤i→FD ops (fun k=>Nat.blt k n) l i t=t:=by
  intro l
  induction l with
  | nil=>intro _ _ _ _;rfl
  | cons r l ih =>
   intro i n t hn;show FD ops _ l (i+1) (if Nat.blt i n=true then _ else t)=t;rw [if_neg (by rw [Nat.blt_eq];omega),ih (i+1) n t (by omega)]
 induction h with
 | nil=>intro j rj hj;simp at hj
 | cons ho hrc ht hs rest ih =>
  rename_i i t s rc l t' s' o
  intro j rj hj
  cases j with
  | zero =>
   simp at hj;subst hj;rw [none _ _ _ _ (by omega),ht]
  | succ j =>
   have:=ih j rj (by simpa using hj);show FD ops _ l (i+1) (if Nat.blt i (i+(j+1))=true then t.put (dstAt ops i) rc.v else t)=_;rw [if_pos (by rw [Nat.blt_eq];omega)];have hd:dstAt ops i=o.dst:=by simp [dstAt,ho]
   rw [hd,show i+(j+1)=i+1+j by omega];exact this
theorem DT.allF (h:DT P ops i t s l t' s'):∀D:Nat→Bool,(∀k,i≤k→k<i+l.length→D k=true)→FD ops D l i t=t':=by
 induction h with
 | nil=>intro D _;rfl
 | cons ho hrc ht hs rest ih =>
  rename_i i t s rc l t' s' o
  intro D hD;show FD ops D l (i+1) (if D i=true then t.put (dstAt ops i) rc.v else t)=_;rw [if_pos (hD i (Nat.le_refl _) (by simp only [List.length_cons];omega))];have hd:dstAt ops i=o.dst:=by simp [dstAt,ho]
  rw [hd];exact ih D fun k h1 h2=>hD k (by omega) (by simp only [List.length_cons];omega)
theorem DT.stp (h:DT P ops i t s l t' s'):Stp s s'∧(s.Ok→s'.Ok):=by
 induction h with
 | nil=>exact ⟨Stp.refl _,fun h=>h⟩
 | cons ho hrc ht hs rest ih =>
  rename_i i t s rc l t' s' o
  have h0:=hrc.stp;rw [hs] at h0;have h1:Stp s ⟨rc.s1.h,rc.s1.c,s.T ||| rc.s1.T,s.W ||| rc.s1.W,s.m⟩:=by
   refine ⟨fun hw p hp=>h0.wf (fun p hp=>hw p hp) p hp,h0.c,Ah,Ah,fun p hp hW=>?_,fun p hp=>?_,rfl⟩
   ·have hW:(s.W ||| rc.s1.W).testBit p=false:=hW;rw [Nat.testBit_or,Bool.or_eq_false_iff] at hW;exact h0.same p hp hW.2
   ·have hp:(s.W ||| rc.s1.W).testBit p=true:=hp;show s.W.testBit p=true∨(s.T ||| rc.s1.T).testBit p=true;rw [Nat.testBit_or,Bool.or_eq_true] at hp ⊢;rcases hp with q|q
    ·exact .inl q
    ·exact .inr (.inr (hrc.ok.W p q).1)
  refine ⟨h1.trans ih.1,fun ho=>ih.2 ⟨h1.wf ho.wf,fun p hp=>?_⟩⟩;have hp:(s.W ||| rc.s1.W).testBit p=true:=hp;show (s.T ||| rc.s1.T).testBit p=true∧p<rc.s1.c;rw [Nat.testBit_or,Bool.or_eq_true] at hp ⊢;rcases hp with q|q
  ·have:=ho.W p q;have hc:=h0.c;simp only at hc;exact ⟨.inl this.1,by omega⟩
  ·exact ⟨.inr (hrc.ok.W p q).1,(hrc.ok.W p q).2⟩
theorem DT.allH (h:DT P ops i t s l t' s'):∀(D:Nat→Bool) (H:Mem),(∀k,i≤k→k<i+l.length→D k=true)→(∀p,s.W.testBit p=true→H p=s.get p∧p<s.c)→HD D l i H=Over s s' H:=by
 induction h with
 | nil =>
  rename_i i t s
  intro D H _ hW
  funext p
  show H p=Over s s H p;unfold Over
  by_cases hc:(s.c≤p∧p<s.c)∨s.W.testBit p=true
  ·rw [if_pos hc];rcases hc with hc|hc
   ·omega
   ·exact (hW p hc).1
  ·rw [if_neg hc]
 | cons ho hrc ht hs rest ih =>
  rename_i i t s rc l t' s' o
  intro D H hD hW;have h0:=hrc.stp;rw [hs] at h0;have hc0:=h0.c;simp only at hc0;show HD D l (i+1) (if D i=true then Over rc.s0 rc.s1 H else H)=_;rw [if_pos (hD i (Nat.le_refl _) (by simp only [List.length_cons];omega))];have hst:Stp s ⟨rc.s1.h,rc.s1.c,s.T ||| rc.s1.T,s.W ||| rc.s1.W,s.m⟩:=(DT.cons ho hrc ht hs (DT.nil (P:=P) (ops:=ops) (i:=i+1))).stp.1;have hov:Over rc.s0 rc.s1 H=Over s ⟨rc.s1.h,rc.s1.c,s.T ||| rc.s1.T,s.W ||| rc.s1.W,s.m⟩ H:=by
   funext p
   by_cases hw:rc.wr p
   ·rw [Hf hw];unfold Over;rw [if_pos]
    ·rfl
    ·rcases hw with q|q
     ·rw [hs] at q;exact .inl q
     ·right;show (s.W ||| rc.s1.W).testBit p=true;rw [Nat.testBit_or,q,Bool.or_true]
   ·rw [Fp hw];unfold Over
    by_cases hc:(s.c≤p∧p<rc.s1.c)∨(s.W ||| rc.s1.W).testBit p=true
    ·rw [if_pos hc];rcases hc with hc|hc
     ·exact absurd (.inl (by rw [hs];exact hc)) hw
     ·rw [Nat.testBit_or,Bool.or_eq_true] at hc;rcases hc with hc|hc
      ·rw [(hW p hc).1];have:=h0.same p (hW p hc).2 (Be fun e=>hw (.inr e));exact this.symm
      ·exact absurd (.inr hc) hw
    ·rw [if_neg hc]
  rw [hov,ih D _ (fun k h1 h2=>hD k (by omega) (by simp only [List.length_cons];omega)) (fun p hp=>?_)]
  ·exact Over.trans hst rest.stp.1
  ·have hp:(s.W ||| rc.s1.W).testBit p=true:=hp;refine ⟨if_pos (.inr hp),?_⟩;show p<rc.s1.c;rw [Nat.testBit_or,Bool.or_eq_true] at hp;rcases hp with q|q
   ·have:=(hW p q).2;omega
   ·exact (hrc.ok.W p q).2
end
end Go.Ev
namespace Go.Ev
open Go Go.Eng
set_option linter.unusedVariables false
section
variable {P:Program} {ops:Array Oper} {Q:Exit→Act→World→Prop} {N:Nat} {ms:List Nat}
theorem Yg {r:Option Nat} {Inv:Array Bool→Act→World→Prop} (hstep:∀S a w i,Inv S a w→i∈Region.ready .any ops S→wpOpIn (F0 r) 0 P ops Q i (fun a' w'=>Inv (S.setIfInBounds i true) a' w') a w)
  (hfin:∀S a w,Inv S a w→Region.ready .any ops S=[]→Q .normal a w) (hsz:∀S a w,Inv S a w→S.size=ops.size):∀(fuel:Nat) (S:Array Bool) (a:Act) (w:World),Inv S a w→S.toList.count false≤fuel→wpAnyIn (F0 r) 0 P .any ops Q fuel S a w:=by
 intro fuel
 induction fuel with
 | zero =>
  intro S a w hI hc;have h0:Region.ready .any ops S=[]:=by
   rw [List.eq_nil_iff_forall_not_mem];intro i hi;obtain ⟨h0,_⟩:=mem_ready.1 hi;have:=Kf (Ds h0);omega
  exact ⟨h0,hfin S a w hI h0⟩
 | succ fuel ih =>
  intro S a w hI hc;refine ⟨fun h0=>hfin S a w hI h0,fun i hi=>?_⟩;refine wpOpIn_mono (fun a' w' h'=>ih _ a' w' h' ?_) (hstep S a w i hI hi);obtain ⟨h0,_⟩:=mem_ready.1 hi;have h1:=Kg S.toList i (Ds h0);have h2:(S.setIfInBounds i true).toList=S.toList.set i true:=by simp
  rw [h2];omega
theorem DT.touch {i:Nat} {t:Fm} {s:S} {l:List Rc} {t':Fm} {s':S} (hT:DT P ops i t s l t' s'):∀(k:Nat) (rk:Rc),l[k]? = some rk→∀p,rk.s1.T.testBit p=true→s'.T.testBit p=true:=by
 induction hT with
 | nil=>intro k rk hk;simp at hk
 | cons ho hrc ht hs rest ih =>
  intro k rk hk p hpT
  cases k with
  | zero =>
   simp at hk;subst hk;refine rest.stp.1.T p ?_;rw [Nat.testBit_or,hpT,Bool.or_true]
  | succ k=>exact ih k rk (by simpa using hk) p hpT
structure DInv (P:Program) (ops:Array Oper) (N:Nat) (ms:List Nat) (w0:World) (x:Cx) (l:List Rc) (t:Fm) (H:Mem) (S:Array Bool) (a:Act) (w:World):Prop where
 size:S.size=ops.size
 closed:Closed ops S
 cx:∃y,x.le y∧(∀p,(∀k rk,l[k]? = some rk→S.getD k false=true→¬(rk.s0.c≤p∧p<rk.s1.c))→y.ρ p=x.ρ p∧y.z p=x.z p) ∧
  Rel P w0.heap.size y (HD (fun k=>S.getD k false) l 0 H) w∧Ext w0 w∧FrR y N (FD ops (fun k=>S.getD k false) l 0 t) ms a
theorem T7 {t t':Fm} {s s':S} {l:List Rc} {x:Cx} {w w0:World} {a:Act} {H:Mem} {r:Option Nat} {id:Nat} (hmo:P.follows .mixedOrders=true) (hT:DT P ops 0 t s l t' s') (hC:CF ops l) (hlen:l.length=ops.size)
  (hedge:Cf ops=true) (hord:F9 ops ops.size=true) (hdst:Al ops N=true) (ho:s.Ok) (hp:Pre P w0 s s' H x w) (hF:FrR x N t ms a)
  (hQ:∀y a' w',x.to y s.c s'.c→Rel P w0.heap.size y (Over s s' H) w'→Ext w0 w'→FrR y N t' ms a'→Q .normal a' w'):WP P r (.region id ops true) Q a w:=by
 refine wpIn_region_any hmo ?_;have hT0:=hT.stp;have hmono:=hT.mono;have hap:=hT.apart;have hW:=hp.W ho hT0.1;refine Yg (Inv:=DInv P ops N ms w0 x l t H) ?_ ?_ (fun S a w hI=>hI.size) ops.size _ a _ ⟨by simp,fun i o e h=>?_,x,x.le_refl,fun p _=>⟨rfl,rfl⟩,?_,?_,?_⟩ ?_
 ·
  intro S a w j hI hj;obtain ⟨hsz,hcl,y,y1,y2,y3,y4,y5⟩:=hI;obtain ⟨hj0,o,hoj,_⟩:=mem_ready.1 hj;have hjn:j<ops.size:=(Array.getElem?_eq_some_iff.1 hoj).1;have hDj:S.getD j false=false:=Dj hj0;have hgj:l[j]? = some l[j]:=List.getElem?_eq_getElem (by omega);generalize l[j]=rj at hgj;obtain ⟨o',ho',hok,hz1,hz2,hz3⟩:=hT.at j rj hgj;rw [Nat.zero_add,hoj] at ho'
  cases ho'
  have later:∀m rm,j<m→l[m]? = some rm→S.getD m false=true→∀p,(rj.wr p→rm.wr p→False)∧(rj.s1.T.testBit p=true→p<rj.s0.c→rm.wr p→False):=by
   intro m rm hjm hm hSm p;have hnot:¬Anc ops j m:=fun hA=>by
    have:=hA.listed hcl hSm;rw [hDj] at this;cases this
   rcases hC j m rj rm hjm hgj hm with hA|⟨c1,c2⟩
   ·exact absurd hA hnot
   ·have hc:=hap j m rj rm hjm hgj hm;have hcj:=hok.stp.c;obtain ⟨_,_,hokm,hzm,_⟩:=hT.at m rm hm;refine ⟨fun h1 h2=>?_,fun h1 h2 h3=>?_⟩
    ·rcases h2 with q|q
     ·rcases h1 with q1|q1
      ·omega
      ·have:=(hok.ok.W p q1).2;omega
     ·exact c1 p h1 (hokm.ok.W p q).1
    ·rcases h3 with q|q
     ·omega
     ·exact c2 p q h1
  have ahead:∀k rk,k<j→l[k]? = some rk→∀p,rj.s1.T.testBit p=true→rk.wr p→S.getD k false=true:=by
   intro k rk hkj hk p h1 h2;rcases hC k j rk rj hkj hk hgj with hA|⟨c1,_⟩
   ·exact hA.ready hcl hj
   ·exact (c1 p h2 h1).elim
  have conf:∀(k m:Nat) (xk xm:Oper),k<m→ops[k]? = some xk→ops[m]? = some xm→((∃d,xk.dst=some d∧d∈xm.looksAt ops)∨(∃d,xk.dst=some d∧xm.dst=some d)∨(∃d,xm.dst=some d∧d∈xk.looksAt ops))→Anc ops k m:=by
   intro k m xk xm hkm hk hm hc;rcases G6 hord hkm (Array.getElem?_eq_some_iff.1 hm).1 hk hm with h|h
   ·have hs:=Oper.apart_spec h;rcases hc with ⟨d,h1,h2⟩|⟨d,h1,h2⟩|⟨d,h1,h2⟩
    ·exact absurd h2 (hs.1 d h1)
    ·exact absurd h2 (hs.2.1 d h1)
    ·exact absurd h2 (hs.2.2 d h1)
   ·exact h
  have hdsts:∀(k:Nat) (d:Tmp),dstAt ops k=some d→∃xk,ops[k]? = some xk∧xk.dst=some d:=by
   intro k d hk;unfold dstAt at hk
   cases hx:ops[k]? with
   | none=>rw [hx] at hk;simp at hk
   | some xk=>rw [hx] at hk;exact ⟨xk,rfl,by simpa using hk⟩
  have htext:FD ops (fun k=>Nat.blt k j) l 0 t=rj.t:=by
   have:=hT.textF j rj hgj
   rwa [Nat.zero_add] at this
  have slot:∀d∈o.looksAt ops,(FD ops (fun k=>S.getD k false) l 0 t).g (pn d)=rj.t.g (pn d):=by
   intro d hd;rw [←htext];refine M3 l 0 t t rfl (fun k rk hk hdk=>?_);rw [Nat.zero_add] at hdk ⊢;obtain ⟨xk,hxk,hxd⟩:=hdsts k d hdk;rcases Nat.lt_trichotomy k j with q|q|q
   ·have:=(conf k j xk o q hxk hoj (.inl ⟨d,hxd,hd⟩)).ready hcl hj;rw [this];symm;rw [Nat.blt_eq];exact q
   ·subst q;rw [hDj];symm;exact Be fun e=>by rw [Nat.blt_eq] at e;omega
   ·have:S.getD k false=false:=Be fun e=>by
     have:=(conf j k o xk q hoj hxk (.inr (.inr ⟨d,hxd,hd⟩))).listed hcl e;rw [hDj] at this;cases this
    rw [this];symm;exact Be fun e=>by rw [Nat.blt_eq] at e;omega
  have hE:EnvR y rj.t a o:=by
   intro q hq
   cases q with
   | tmp i =>
    have hi:i∈o.looksAt ops:=by
     unfold Oper.looksAt;refine List.mem_append_left _ (List.mem_filterMap.2 ⟨.tmp i,hq.mem,rfl⟩)
    have:=y5.frm i;rw [slot i hi] at this;show VR y (Option.casesOn (rj.t.g (pn i)) undef fun v=>v) (a.tmps.getD i undef)
    cases h:rj.t.g (pn i) with
    | none=>rw [h] at this;exact this
    | some v=>rw [h] at this;exact this
   | const v=>exact Ct 6 v hq.ok
   | global g=>have:=hq.ok;simp [okOd] at this
   | func f=>exact .func (fun l e=>by cases e) .nil .nil
  have hG:∀g,o.guard=some g→∀o' d,ops[g.1]? = some o'→o'.dst=some d→VR y ((rj.t.g (pn d)).getD undef) (a.tmps.getD d undef):=by
   intro g hg o' d h1 h2;have hd:d∈o.looksAt ops:=by
    unfold Oper.looksAt;rw [hg];refine List.mem_append_right _ ?_;obtain ⟨gi,gb⟩:=g;simp only at h1;simp [h1,h2]
   have:=y5.frm d;rw [slot d hd] at this;exact this
  have hA:∀p,p<rj.s0.c→rj.s1.T.testBit p=true→HD (fun k=>S.getD k false) l 0 H p=rj.s0.get p:=by
   intro p h1 h2;have e1:HD (fun k=>S.getD k false) l 0 H p=HD (fun k=>Nat.blt k (0+j)) l 0 H p:=by
    refine M4 l 0 H H rfl (fun k rk hk hw=>?_);rw [Nat.zero_add,Nat.zero_add];rcases Nat.lt_trichotomy k j with q|q|q
    ·rw [ahead k rk q hk p h2 hw];symm;rw [Nat.blt_eq];exact q
    ·subst q;rw [hDj];symm;exact Be fun e=>by rw [Nat.blt_eq] at e;omega
    ·have:S.getD k false=false:=Be fun e=>(later k rk q hk e p).2 h2 h1 hw;rw [this];symm;exact Be fun e=>by rw [Nat.blt_eq] at e;omega
   rw [e1];refine hT.textH j rj H hgj h1 (fun hps=>hp.agree p hps ?_);exact hT.touch j rj hgj p h2
  have hcs:=hmono.2 j rj hgj;have hpre:Pre P w0 rj.s0 rj.s1 (HD (fun k=>S.getD k false) l 0 H) y w:=by
   refine ⟨hA,fun p h1 h2'=>?_,y3,y4,fun hm=>by rw [hz3] at hm;cases hm⟩
   have h2:p<rj.s1.c:=by
    rcases h2' with q|q
    ·exact q
    ·rw [hz3] at q;cases q
   have:=y2 p (fun k rk hk hSk hq=>by
    rcases Nat.lt_trichotomy k j with q|q|q
    ·have:=hap k j rk rj q hk hgj;omega
    ·subst q;rw [hDj] at hSk;cases hSk
    ·have:=hap j k rj rk q hgj hk;omega)
   rw [this.1,this.2];exact hp.fresh p (by omega) (.inl (by omega))
  refine (hok.real w0 _ y w r a hpre hE hG).wpOpIn hoj ?_;rintro v' w' ⟨z,z1,z2,z3,z4⟩;have hset:∀k,(S.setIfInBounds j true).getD k false=(S.getD k false||k==0+j):=by
   intro k;rw [Nat.zero_add]
   by_cases e:j=k
   ·subst e;rw [Cm (by omega)];simp
   ·rw [getD_set_ne false e];have:(k==j)=false:=by simp;omega
    rw [this,Bool.or_false]
  have hfun:(fun k=>(S.setIfInBounds j true).getD k false)=(fun k=>S.getD k false||k==0+j):=funext hset;refine ⟨by simp [hsz],hcl.set hj,z,Cx.le_trans y1 z1.le,fun p hpp=>?_,?_,z4,?_⟩
  ·have e1:=z1.only p (fun hq=>hpp j rj hgj (by rw [hset];simp) hq);have e2:=y2 p (fun k rk hk hSk=>hpp k rk hk (by rw [hset,hSk];rfl));exact ⟨e1.1.trans e2.1,e1.2.trans e2.2⟩
  ·have e1:HD (fun k=>(S.setIfInBounds j true).getD k false) l 0 H=Over rj.s0 rj.s1 (HD (fun k=>S.getD k false) l 0 H):=by
    rw [hfun]
    funext p
    exact (P6 l 0 j H hgj (by rw [Nat.zero_add];exact hDj) (fun hw m rm hm hrm hSm=>by
     rw [Nat.zero_add] at hSm;exact fun hwm=>(later m rm hm hrm hSm p).1 hw hwm)).symm
   rw [e1];exact z3
  ·have hdj:dstAt ops (0+j)=o.dst:=by rw [Nat.zero_add];simp [dstAt,hoj]
   have hput:=(y5.mono z1.le).put (d:=o.dst) z2 (fun q hq=>D3 hdst hoj hq);refine ⟨fun d=>?_,hput.size,hput.marks⟩;have:=hput.frm d;rw [hfun,←P5 l 0 j t hgj (by rw [Nat.zero_add];exact hDj) (fun hw m rm hm hrm hSm hdm=>?_),hdj]
   ·exact this
   ·rw [Nat.zero_add] at hw hSm hdm;obtain ⟨xj,hxj,hxjd⟩:=hdsts j d hw;obtain ⟨xm,hxm,hxmd⟩:=hdsts m d hdm;have:=(conf j m xj xm hm hxj hxm (.inr (.inl ⟨d,hxjd,hxmd⟩))).listed hcl hSm;rw [hDj] at this;cases this
 ·
  intro S a w hI h0;obtain ⟨hsz,hcl,y,y1,y2,y3,y4,y5⟩:=hI;have hall:=Fv hedge hsz h0;refine hQ y a w ⟨y1,fun p hpp=>y2 p (fun k rk hk _ hq=>hpp ?_)⟩ ?_ y4 ?_
  ·have:=hmono.2 k rk hk;omega
  ·rw [←hT.allH (fun k=>S.getD k false) H (fun k h1 h2=>hall k (by omega)) hW];exact y3
  ·rw [←hT.allF (fun k=>S.getD k false) (fun k h1 h2=>hall k (by omega))];exact y5
 ·
  have hnone:¬(Array.replicate ops.size false).getD i false=true:=by
   have h:=h;intro h;have:=Cw h;simp at this;simp [this] at h
  exact absurd h hnone
 ·have hno:∀k,(Array.replicate ops.size false).getD k false=false:=fun k=>Be fun h=>by
   have:=Cw h;simp at this;simp [this] at h
  have e1:HD (fun k=>(Array.replicate ops.size false).getD k false) l 0 H=H:=by
   funext p
   exact Ln l 0 H (fun k rk hk hd=>by simp only [hno] at hd;cases hd)
  rw [e1];exact Rel.keep (w:=w) (fun b ob hb=>hb) hp.rel
 ·exact ⟨hp.ext.os,hp.ext.tape,hp.ext.output,hp.ext.size,fun k hk=>RowKit.Below.block (w':=w) hp.ext k hk⟩
 ·have hno:∀k,(Array.replicate ops.size false).getD k false=false:=fun k=>Be fun h=>by
   have:=Cw h;simp at this;simp [this] at h
  have key:∀(l:List Rc) (i:Nat) (t:Fm),FD ops (fun k=>(Array.replicate ops.size false).getD k false) l i t=t:=by
   intro l
   induction l with
   | nil=>intro _ _;rfl
   | cons rk l ih =>
    intro i t;show FD ops _ l (i+1) (if (Array.replicate ops.size false).getD i false=true then _ else t)=t;rw [if_neg (by rw [hno];simp)];exact ih _ _
  rw [key];exact hF
 ·refine Nat.le_trans List.count_le_length ?_;simp
structure KS (pre:List Rc) (ks:Tks):Prop where
 one:∀(k:Nat) (rk:Rc),pre[k]? = some rk→(rk.s1.T=0∧rk.s1.W=0∧rk.s1.c=rk.s0.c)∨(⟨k,rk.s0.c,rk.s1.c,rk.s1.T,rk.s1.W⟩:Tk)∈ks.l
 T:∀(k:Nat) (rk:Rc),pre[k]? = some rk→∀p,rk.s1.T.testBit p=true→ks.T.testBit p=true
 W:∀(k:Nat) (rk:Rc),pre[k]? = some rk→∀p,rk.wr p→ks.W.testBit p=true
theorem E2 {α:Type} {l:List α} {x y:α} {k:Nat} (h:(l++[x])[k]? = some y):(k<l.length∧l[k]? = some y)∨(k=l.length∧y=x):=by
 rcases Nat.lt_trichotomy k l.length with q|q|q
 ·rw [List.getElem?_append_left q] at h;exact .inl ⟨q,h⟩
 ·subst q;rw [List.getElem?_append_right (Nat.le_refl _)] at h;simp at h;exact .inr ⟨rfl,h.symm⟩
 ·rw [List.getElem?_append_right (by omega)] at h;obtain ⟨m,hm⟩:∃m,k-l.length=m+1:=⟨k-l.length-1,by omega⟩;rw [hm] at h;simp at h
theorem H5 {a b:Nat} (h:Nat.beq (a &&& b) 0=true) {p:Nat} (ha:a.testBit p=true) (hb:b.testBit p=true):False:=by
 have:=Wk h p ha;rw [hb] at this;cases this
theorem Jr {ops:Array Oper} {b:Tk}:∀{l:List Tk},Jq (Ht ops.toList []) b l=true→∀a∈l,Anc ops a.i b.i∨(Nat.beq ((a.W ||| a.new) &&& b.T) 0=true∧Nat.beq (b.W &&& a.T) 0=true)
 | [],_,a,ha=>by simp at ha
 | c::l,h,a,ha=>by
  unfold Jq at h;rw [Bool.and_eq_true] at h;rcases List.mem_cons.1 ha with rfl|ha
  ·have h1:=h.1;unfold Rd at h1;rw [Bool.not_eq_true',Bool.and_eq_false_iff] at h1;rcases h1 with q|q
   ·left;exact Fb (by simpa using q)
   ·right;rw [Bool.not_eq_false',Bool.and_eq_true] at q;exact q
  ·exact Jr h.2 a ha
def Wt (ops:Array Oper) (pre:List Rc) (rj:Rc):Prop:=∀(k:Nat) (rk:Rc),pre[k]? = some rk→Anc ops k pre.length∨((∀p,rk.wr p→rj.s1.T.testBit p=true→False)∧∀p,rj.s1.W.testBit p=true→rk.s1.T.testBit p=true→False)
theorem T6 {pre:List Rc} {ks:Tks} {s s':S} {rc:Rc} {K:Tks→S→Option Out} {out:Out} (hks:KS pre ks) (h:U8 s s' pre.length ks K ops=some out) (hs0:rc.s0=⟨s.h,s.c,0,0,true⟩) (hs1:rc.s1=s') (hst:Stp rc.s0 rc.s1) (hok:rc.s1.Ok) :
  (Wt ops pre rc∧∃ks',KS (pre++[rc]) ks'∧K ks' ⟨s'.h,s'.c,s.T ||| s'.T,s.W ||| s'.W,s.m⟩=some out)∨(s'.T=0∧s'.W=0∧s'.c=s.c∧K ks s=some out):=by
 subst hs1;unfold U8 at h
 cases hz:(Nat.beq rc.s1.T 0&&Nat.beq rc.s1.W 0) with
 | true =>
  rw [hz] at h;rw [Bool.and_eq_true] at hz;have hT0:=Nat.eq_of_beq_eq_true hz.1;have hW0:=Nat.eq_of_beq_eq_true hz.2;have h:dn0 s rc.s1 pre.length ks K=some out:=h;unfold dn0 at h
  cases hc:Nat.beq s.c rc.s1.c with
  | true =>
   rw [hc] at h;exact .inr ⟨hT0,hW0,(Nat.eq_of_beq_eq_true hc).symm,h⟩
  | false =>
   rw [hc] at h;have h:fN (ks.W ||| bits s.c (rc.s1.c-s.c)) (dn1 s rc.s1 pre.length ks K)=some out:=h;rw [B9] at h;have h:K ⟨⟨pre.length,s.c,rc.s1.c,0,0⟩::ks.l,ks.T,ks.W ||| bits s.c (rc.s1.c-s.c)⟩ ⟨rc.s1.h,rc.s1.c,s.T,s.W,s.m⟩=some out:=h;refine .inl ⟨fun k rk hk=>.inr ⟨fun p _ hp=>?_,fun p hp=>?_⟩,⟨⟨pre.length,s.c,rc.s1.c,0,0⟩::ks.l,ks.T,ks.W ||| bits s.c (rc.s1.c-s.c)⟩,⟨fun k rk hk=>?_,fun k rk hk p hp=>?_,fun k rk hk p hp=>?_⟩,?_⟩
   ·rw [hT0] at hp;simp at hp
   ·rw [hW0] at hp;simp at hp
   ·rcases E2 hk with ⟨_,q⟩|⟨rfl,rfl⟩
    ·exact (hks.one k rk q).imp id (List.mem_cons_of_mem _)
    ·right;rw [hT0,hW0,hs0];exact List.mem_cons_self ..
   ·rcases E2 hk with ⟨_,q⟩|⟨rfl,rfl⟩
    ·exact hks.T k rk q p hp
    ·rw [hT0] at hp;simp at hp
   ·show (ks.W ||| bits s.c (rc.s1.c-s.c)).testBit p=true;rw [Nat.testBit_or,Bool.or_eq_true];rcases E2 hk with ⟨_,q⟩|⟨rfl,rfl⟩
    ·exact .inl (hks.W k rk q p hp)
    ·right;rcases hp with q|q
     ·rw [hs0] at q;have q1:s.c≤p:=q.1;have q2:=q.2;rw [Ba,decide_eq_true_eq];omega
     ·rw [hW0] at q;simp at q
   ·rw [hT0,hW0,Nat.or_zero,Nat.or_zero];exact h
 | false =>
  rw [hz] at h;have h:oB ((Nat.beq (ks.W &&& rc.s1.T) 0&&Nat.beq (rc.s1.W &&& ks.T) 0)||Jq (Ht ops.toList []) ⟨pre.length,s.c,rc.s1.c,rc.s1.T,rc.s1.W⟩ ks.l) (ds0 s rc.s1 pre.length ks K)=some out:=h;obtain ⟨hcl,h⟩:=Bc h;unfold ds0 at h;rw [B9] at h;unfold ds1 at h;rw [B9] at h;unfold ds2 at h;rw [B9] at h;unfold ds3 at h;rw [B9] at h;have h:K ⟨⟨pre.length,s.c,rc.s1.c,rc.s1.T,rc.s1.W⟩::ks.l,ks.T ||| rc.s1.T,ks.W ||| (rc.s1.W ||| bits s.c (rc.s1.c-s.c))⟩ ⟨rc.s1.h,rc.s1.c,s.T ||| rc.s1.T,s.W ||| rc.s1.W,s.m⟩=some out:=h;refine .inl ⟨fun k rk hk=>?_,⟨⟨pre.length,s.c,rc.s1.c,rc.s1.T,rc.s1.W⟩::ks.l,ks.T ||| rc.s1.T,ks.W ||| (rc.s1.W ||| bits s.c (rc.s1.c-s.c))⟩,⟨fun k rk hk=>?_,fun k rk hk p hp=>?_,fun k rk hk p hp=>?_⟩,h⟩
  ·rw [Bool.or_eq_true,Bool.and_eq_true] at hcl;rcases hcl with ⟨c1,c2⟩|hcl
   ·exact .inr ⟨fun p h1 h2=>H5 c1 (hks.W k rk hk p h1) h2,fun p h1 h2=>H5 c2 h1 (hks.T k rk hk p h2)⟩
   ·rcases hks.one k rk hk with ⟨q1,q2,q3⟩|hmem
    ·refine .inr ⟨fun p h1 _=>?_,fun p _ h2=>?_⟩
     ·rcases h1 with e|e
      ·omega
      ·rw [q2] at e;simp at e
     ·rw [q1] at h2;simp at h2
    ·rcases Jr hcl _ hmem with hA|⟨c1,c2⟩
     ·exact .inl hA
     ·refine .inr ⟨fun p h1 h2=>H5 c1 ?_ h2,fun p h1 h2=>H5 c2 h1 h2⟩;simp only [Tk.new,Nat.testBit_or,Bool.or_eq_true,Ba,decide_eq_true_eq];rcases h1 with e|e
      ·right;omega
      ·exact .inl e
  ·rcases E2 hk with ⟨_,q⟩|⟨rfl,rfl⟩
   ·exact (hks.one k rk q).imp id (List.mem_cons_of_mem _)
   ·right;rw [hs0];exact List.mem_cons_self ..
  ·show (ks.T ||| rc.s1.T).testBit p=true;rw [Nat.testBit_or,Bool.or_eq_true];rcases E2 hk with ⟨_,q⟩|⟨rfl,rfl⟩
   ·exact .inl (hks.T k rk q p hp)
   ·exact .inr hp
  ·show (ks.W ||| (rc.s1.W ||| bits s.c (rc.s1.c-s.c))).testBit p=true;rw [Nat.testBit_or,Nat.testBit_or,Bool.or_eq_true,Bool.or_eq_true];rcases E2 hk with ⟨_,q⟩|⟨rfl,rfl⟩
   ·exact .inl (hks.W k rk q p hp)
   ·right;rcases hp with q|q
    ·right;rw [hs0] at q;have q1:s.c≤p:=q.1;have q2:=q.2;rw [Ba,decide_eq_true_eq];omega
    ·exact .inl q
theorem Q8 {run:Rn} {l:List Oper} {o:Oper} {s:S} {t:Fm} {i:Nat} {ks:Tks}:H9 P run ops ms (o::l) i ks t s=Rf P run ops t o ⟨s.h,s.c,0,0,true⟩ (fun v s'=>U8 s s' i ks (fun ks s=>H9 P run ops ms l (i+1) ks (t.put o.dst v) s) ops):=by
 show Rf P run ops t o ⟨s.h,s.c,0,0,true⟩ (kd1 ops (H9 P run ops ms l) i ks t o.dst s)=_
 congr 1
 funext v s'
 unfold kd1
 congr 1
 funext ks s
 unfold kd2;rw [Us];unfold kd3;rw [B9];rfl
theorem Ta {run:Rn} (hr:RunOk P run):∀(l:List Oper) (pre:List Rc) (ks:Tks),(∀j,l[j]? = ops[pre.length+j]?)→pre.length+l.length=ops.size→KS pre ks→∀(t:Fm) (s:S) (out:Out),s.Ok→H9 P run ops ms l pre.length ks t s=some out →
  ∃l' t' s',out=.norm t' ms s'∧DT P ops pre.length t s l' t' s'∧l'.length=l.length∧(∀k rk,l'[k]? = some rk→Wt ops (pre++l'.take k) rk):=by
 intro l
 induction l with
 | nil =>
  intro pre ks _ _ _ t s out ho h;have h:some (Out.norm t ms s)=some out:=h
  cases h
  exact ⟨[],t,s,rfl,.nil,rfl,fun k rk hk=>by simp at hk⟩
 | cons o l ih =>
  intro pre ks hl hk hks t s out ho h;rw [Q8] at h;have ho0:S.Ok ⟨s.h,s.c,0,0,true⟩:=⟨ho.wf,fun p hp=>by simp at hp⟩;obtain ⟨v,s1,h1,h2,h3,h4⟩:=U9 hr ho0 h;have hok:ops[pre.length]? = some o:=by have:=hl 0;simpa using this.symm
  rcases T6 (rc:=⟨t,⟨s.h,s.c,0,0,true⟩,s1,v⟩) hks h3 rfl rfl h1 h2 with ⟨c1,ks',c2,h3⟩|⟨z1,z2,z3,h3⟩
  ·have hos:S.Ok ⟨s1.h,s1.c,s.T ||| s1.T,s.W ||| s1.W,s.m⟩:=by
    refine ⟨h2.wf,fun p hp=>?_⟩;have hp:(s.W ||| s1.W).testBit p=true:=hp;show (s.T ||| s1.T).testBit p=true∧p<s1.c;rw [Nat.testBit_or,Bool.or_eq_true] at hp ⊢;rcases hp with q|q
    ·have:=ho.W p q;have hc:=h1.c;simp only at hc;exact ⟨.inl this.1,by omega⟩
    ·exact ⟨.inr (h2.W p q).1,(h2.W p q).2⟩
   have hpl:(pre++[(⟨t,⟨s.h,s.c,0,0,true⟩,s1,v⟩:Rc)]).length=pre.length+1:=by simp
   obtain ⟨l',t',s',e1,e2,e3,e4⟩:=ih (pre++[⟨t,⟨s.h,s.c,0,0,true⟩,s1,v⟩]) ks' (fun j=>by
    have:=hl (j+1);rw [hpl,show pre.length+1+j=pre.length+(j+1) by omega,←this];rfl) (by rw [hpl];simp only [List.length_cons] at hk;omega) c2 _ _ out hos (by rw [hpl];exact h3)
   rw [hpl] at e2;refine ⟨⟨t,⟨s.h,s.c,0,0,true⟩,s1,v⟩::l',t',s',e1,.cons hok ⟨h1,h2,fun w0 H x w r a hp hE hg=>h4 w0 H x w r a hp hE hg⟩ rfl rfl e2,by simp [e3],fun k rk hk'=>?_⟩
   cases k with
   | zero=>simp at hk';subst hk';simpa using c1
   | succ k =>
    have:=e4 k rk (by simpa using hk');rw [List.append_assoc] at this
    simpa using this
  ·
   have hov:∀H:Mem,Over ⟨s.h,s.c,0,0,true⟩ s1 H=H:=by
    intro H
    funext p
    unfold Over;rw [if_neg];rintro (q|q)
    ·simp only at q;omega
    ·rw [z2] at q;simp at q
   have hov0:∀H:Mem,Over (⟨s.h,s.c,0,0,true⟩:S) ⟨s.h,s.c,0,0,true⟩ H=H:=by
    intro H
    funext p
    unfold Over;rw [if_neg];rintro (q|q)
    ·simp only at q;omega
    ·simp at q
   have hrc:RcOk P ops o ⟨t,⟨s.h,s.c,0,0,true⟩,⟨s.h,s.c,0,0,true⟩,v⟩:=by
    refine ⟨Stp.refl _,ho0,fun w0 H x w r a hp hE hg=>?_⟩;have hfr:Fresh (⟨s.h,s.c,0,0,true⟩:S) s1 x:=by
     intro p h5 h6;simp only at h5 h6;rcases h6 with h6|h6
     ·omega
     ·cases h6
    have:=h4 w0 H x w r a ⟨fun p h5 h6=>by rw [z1] at h6;simp at h6,hfr,hp.rel,hp.ext,fun hm=>by cases hm⟩ hE hg
    unfold OpGZ at this ⊢
    split
    ·rename_i hw
     rw [if_pos hw] at this;refine this.mono ?_;rintro v' w' ⟨y,y1,y2,y3,y4⟩;rw [hov] at y3;exact ⟨y,by rw [z3] at y1;exact y1,y2,by simp only;rw [hov0];exact y3,y4⟩
    ·rename_i hw
     rw [if_neg hw] at this;obtain ⟨y,y1,y2,y3,y4⟩:=this;rw [hov] at y3;exact ⟨y,by rw [z3] at y1;exact y1,y2,by simp only;rw [hov0];exact y3,y4⟩
   have hpl:(pre++[(⟨t,⟨s.h,s.c,0,0,true⟩,⟨s.h,s.c,0,0,true⟩,v⟩:Rc)]).length=pre.length+1:=by simp
   have hnw:∀p,¬(⟨t,⟨s.h,s.c,0,0,true⟩,⟨s.h,s.c,0,0,true⟩,v⟩:Rc).wr p:=by
    rintro p (q|q)
    ·simp only at q;omega
    ·simp at q
   have c2:KS (pre++[(⟨t,⟨s.h,s.c,0,0,true⟩,⟨s.h,s.c,0,0,true⟩,v⟩:Rc)]) ks:=by
    refine ⟨fun k rk hk=>?_,fun k rk hk p hp=>?_,fun k rk hk p hp=>?_⟩
    ·rcases E2 hk with ⟨_,q⟩|⟨rfl,rfl⟩
     ·exact hks.one k rk q
     ·exact .inl ⟨rfl,rfl,rfl⟩
    ·rcases E2 hk with ⟨_,q⟩|⟨rfl,rfl⟩
     ·exact hks.T k rk q p hp
     ·simp at hp
    ·rcases E2 hk with ⟨_,q⟩|⟨rfl,rfl⟩
     ·exact hks.W k rk q p hp
     ·exact absurd hp (hnw p)
   obtain ⟨l',t',s',e1,e2,e3,e4⟩:=ih (pre++[⟨t,⟨s.h,s.c,0,0,true⟩,⟨s.h,s.c,0,0,true⟩,v⟩]) ks (fun j=>by
    have:=hl (j+1);rw [hpl,show pre.length+1+j=pre.length+(j+1) by omega,←this];rfl) (by rw [hpl];simp only [List.length_cons] at hk;omega) c2 _ _ out ho (by rw [hpl];exact h3)
   rw [hpl] at e2;refine ⟨⟨t,⟨s.h,s.c,0,0,true⟩,⟨s.h,s.c,0,0,true⟩,v⟩::l',t',s',e1,.cons hok hrc rfl rfl (by simpa using e2),by simp [e3],fun k rk hk'=>?_⟩
   cases k with
   | zero =>
    simp at hk';subst hk';refine fun k rk hk=>.inr ⟨fun p _ hp=>by simp at hp,fun p hp=>by simp at hp⟩
   | succ k =>
    have:=e4 k rk (by simpa using hk');rw [List.append_assoc] at this
    simpa using this
theorem Ww {run:Rn} (hr:RunOk P run) (hmo:P.follows .mixedOrders=true) {t:Fm} {s:S} {out:Out} (ho:s.Ok) (h:H9 P run ops ms ops.toList 0 ⟨[],0,0⟩ t s=some out) :
  ∃t' s',out=.norm t' ms s'∧Stp s s'∧s'.Ok∧∀(N:Nat),Al ops N=true→Cf ops=true→F9 ops ops.size=true→∀(w0:World) (H:Mem) (x:Cx) (w:World) (a:Act) (r:Option Nat) (id:Nat) (Q:Exit→Act→World→Prop),Pre P w0 s s' H x w→FrR x N t ms a →
   (∀y a' w',x.to y s.c s'.c→Rel P w0.heap.size y (Over s s' H) w'→Ext w0 w'→FrR y N t' ms a'→Q .normal a' w')→WP P r (.region id ops true) Q a w:=by
 obtain ⟨l',t',s',e1,e2,e3,e4⟩:=Ta hr ops.toList [] ⟨[],0,0⟩ (fun j=>by simp) (by simp) ⟨fun k rk hk=>by simp at hk,fun k rk hk=>by simp at hk,fun k rk hk=>by simp at hk⟩ t s out ho h;have hs:=e2.stp;refine ⟨t',s',e1,hs.1,hs.2 ho,fun N hdst hedge hord w0 H x w a r id Q hp hF hQ=>T7 hmo e2 ?_ (by rw [e3];simp) hedge hord hdst ho hp hF hQ⟩;intro k j rk rj hkj hk hj;have hlt:j<l'.length:=(List.getElem?_eq_some_iff.1 hj).1;have hl:(l'.take j).length=j:=by rw [List.length_take];omega
 have:=e4 j rj hj k rk (by rw [List.nil_append,List.getElem?_take,if_pos hkj];exact hk)
 rwa [List.nil_append,hl] at this
end
end Go.Ev
namespace Go.Ev
open Go Go.Eng
set_option linter.unusedVariables false
def Out.st:Out→S
 | .norm _ _ s=>s
 | .exit _ _ _ s=>s
 | .ret _ _ s=>s
 | .val _ s=>s
structure At (P:Program) (w0:World) (s s':S) (H:Mem) (x:Cx) (N:Nat) (t:Fm) (ms:List Nat) (a:Act) (w:World):Prop where
 cx:∃y,x.to y s.c s'.c∧Rel P w0.heap.size y (Over s s' H) w∧Ext w0 w∧FrR y N t ms a
def CQ (P:Program) (w0:World) (s:S) (H:Mem) (x:Cx) (N:Nat):Out→Exit→Act→World→Prop
 | .norm t ms s',.normal,a,w=>At P w0 s s' H x N t ms a w
 | .exit id t ms s',.exit id',a,w=>id'=id∧At P w0 s s' H x N t ms a w
 | .ret t ms s',.ret,a,w=>At P w0 s s' H x N t ms a w
 | _,_,_,_=>False
def WPx (P:Program) (m:Nat) (r:Option Nat) (c:Code) (Q:Exit→Act→World→Prop) (a:Act) (w:World):Prop :=
 match c with
 | .loop b=>Code.roundsIn (F0 r) 0 P b Q m a w
 | c=>WP P r c Q a w
theorem WPx.wp {P:Program} {m:Nat} {r:Option Nat} {c:Code} {Q:Exit→Act→World→Prop} {a:Act} {w:World} (h:WPx P m r c Q a w):WP P r c Q a w:=by
 cases c with
 | loop b=>exact wpIn_loop_rounds m h
 | _=>exact h
def K6 (P:Program) (run:Rn):Prop:=∀c t ms r s out,s.Ok→run (.code c t ms r) s=some out→Stp s out.st∧out.st.Ok∧∃m,∀N,Bk N c=true→∀(w0:World) (H:Mem) (x:Cx) (w:World) (a:Act) (r':Option Nat),
 (r=none→r'=none)→Pre P w0 s out.st H x w→FrR x N t ms a→WPx P m r' c (CQ P w0 s H x N out) a w
section
variable {P:Program} {w0 w w':World} {s s1 s2 s':S} {H:Mem} {x y:Cx} {N:Nat} {t:Fm} {ms:List Nat} {a:Act} {out:Out} {e:Exit}
theorem CQ.prev (h1:Stp s s1) (h2:Stp s1 out.st) (hy:x.to y s.c s1.c) (h:CQ P w0 s1 (Over s s1 H) y N out e a w):CQ P w0 s H x N out e a w:=by
 have key:∀{t:Fm} {ms:List Nat} {s':S},Stp s1 s'→At P w0 s1 s' (Over s s1 H) y N t ms a w→At P w0 s s' H x N t ms a w:=by
  rintro t ms s' hs ⟨z,z1,z2,z3,z4⟩;exact ⟨z,Cx.to_trans hy z1 h1.c hs.c,by rw [←Over.trans h1 hs];exact z2,z3,z4⟩
 cases out with
 | norm t ms s'=>cases e<;>first|exact h.elim|exact key h2 h
 | exit id t ms s'=>cases e<;>first|exact h.elim|exact ⟨h.1,key h2 h.2⟩
 | ret t ms s'=>cases e<;>first|exact h.elim|exact key h2 h
 | val v s'=>cases e<;>exact h.elim
theorem Fo {o:Option Out} {n:Fm→List Nat→S→Option Out} {ex:Nat→Fm→List Nat→S→Option Out} {r:Fm→List Nat→S→Option Out} (h:W0 o n ex r=some out) :
  (∃t ms s,o=some (.norm t ms s)∧n t ms s=some out)∨(∃id t ms s,o=some (.exit id t ms s)∧ex id t ms s=some out)∨∃t ms s,o=some (.ret t ms s)∧r t ms s=some out:=by
 obtain ⟨b,rfl,h⟩:=Au h
 cases b with
 | norm t ms s=>exact .inl ⟨t,ms,s,rfl,h⟩
 | exit id t ms s=>exact .inr (.inl ⟨id,t,ms,s,rfl,h⟩)
 | ret t ms s=>exact .inr (.inr ⟨t,ms,s,rfl,h⟩)
 | val v s=>cases h
theorem Pre.at0 (hp:Pre P w0 s s H x w) (ho:s.Ok) (hF:FrR x N t ms a):At P w0 s s H x N t ms a w :=
 ⟨x,x.to_refl _ _,by rw [E6 ho fun p hpp=>(hp.W ho (Stp.refl s) p hpp).1];exact hp.rel,hp.ext,hF⟩
theorem Y5 {run:Rn} (hc:K6 P run) {b c:Code} {r:Option Nat} (ho:s.Ok) (h:Vl run s t ms r b c=some out) :
  Stp s out.st∧out.st.Ok∧∃m,∀N,Bk N b=true→Bk N c=true→∀(w0:World) (H:Mem) (x:Cx) (w:World) (a:Act) (r':Option Nat),(r=none→r'=none)→Pre P w0 s out.st H x w→FrR x N t ms a →
   WP P r' b (Exit.then (fun a w=>WPx P m r' c (CQ P w0 s H x N out) a w) (CQ P w0 s H x N out)) a w:=by
 unfold Vl at h;rcases Fo h with ⟨t1,ms1,s1,h1,h2⟩|⟨id,t1,ms1,s1,h1,h2⟩|⟨t1,ms1,s1,h1,h2⟩
 ·obtain ⟨p1,p2,m1,p3⟩:=hc b t ms r s _ ho h1;obtain ⟨q1,q2,m2,q3⟩:=hc c t1 ms1 r s1 _ p2 h2;have p1:Stp s s1:=p1;refine ⟨p1.trans q1,q2,m2,fun N hb hcc w0 H x w a r' hr hp hF=>?_⟩;refine wpIn_mono (p3 N hb w0 H x w a r' hr (hp.first p1 q1) hF).wp ?_;intro e a1 w1 hq
  cases e<;>first|exact hq.elim|skip
  obtain ⟨y,y1,y2,y3,y4⟩:=hq;have:=q3 N hcc w0 (Over s s1 H) y w1 a1 r' hr (hp.next p1 q1 p2 y1 y2 y3) y4;have mono:∀(m:Nat) (c:Code) (Q Q':Exit→Act→World→Prop) (a:Act) (w:World),(∀e a w,Q e a w→Q' e a w)→WPx P m r' c Q a w→WPx P m r' c Q' a w:=by
   intro m c Q Q' a w hQ hw
   cases c with
   | loop b =>
    have rm:∀(m:Nat) (a:Act) (w:World),Code.roundsIn (F0 r') 0 P b Q m a w→Code.roundsIn (F0 r') 0 P b Q' m a w:=by
     intro m
     induction m with
     | zero=>intro a w h;exact h
     | succ m ih =>
      intro a w h;rw [roundsIn_succ] at h ⊢;refine wpIn_mono h ?_;intro e a w hq
      cases e<;>first|exact ih _ _ hq|exact hQ _ _ _ hq
    exact rm m a w hw
   | _=>exact wpIn_mono hw hQ
  exact mono _ _ _ _ _ _ (fun e a w hq=>CQ.prev p1 q1 y1 hq) this
 ·obtain ⟨p1,p2,m1,p3⟩:=hc b t ms r s _ ho h1
  cases h2
  refine ⟨p1,p2,0,fun N hb hcc w0 H x w a r' hr hp hF=>?_⟩;refine wpIn_mono (p3 N hb w0 H x w a r' hr hp hF).wp ?_;intro e a1 w1 hq
  cases e<;>first|exact hq.elim|exact hq
 ·obtain ⟨p1,p2,m1,p3⟩:=hc b t ms r s _ ho h1
  cases h2
  refine ⟨p1,p2,0,fun N hb hcc w0 H x w a r' hr hp hF=>?_⟩;refine wpIn_mono (p3 N hb w0 H x w a r' hr hp hF).wp ?_;intro e a1 w1 hq
  cases e<;>first|exact hq.elim|exact hq
end
end Go.Ev
namespace Go.Ev
open Go Go.Eng
set_option linter.unusedVariables false
section
variable {P:Program} {w0 w w':World} {s s1 s2 s':S} {H:Mem} {x y:Cx} {N:Nat} {t:Fm} {ms:List Nat} {a:Act} {out:Out} {e:Exit}
theorem M1 {n b:Nat} {o o':AObj} {rob:Obj} (ho:s.Ok) (hp:Pre P w0 s (s.wr n (some o')) H x w) (hg:s.get n=some o) (hl:o.lone=true) (hl':o'.lone=true) (hb:x.ρ n=some ⟨b,0,none⟩)
  (hobj:∀w',w'.heap[b]? = some rob→ObjR P x w' n o'):Rel P w0.heap.size x (Over s (s.wr n (some o')) H) (w.putObj b rob)∧Ext w0 (w.putObj b rob):=by
 have hlt:=ho.wf.lt hg;obtain ⟨q1,q2⟩:=Ei (ob:=some o') ho hlt;have hH:H n=some o:=by
  rw [←hg];exact hp.agree n hlt (by show (s.T ||| 2 ^ n).testBit n=true;rw [Nat.testBit_or,Ce];simp)
 have hbs:=Jp hp.rel hH (a:=⟨b,0,none⟩) (by rw [Cc hl];exact hb);refine ⟨V1 hp.rel ho.wf (fun p hpp=>(hp.W ho q1 p hpp).1) hH hl hl' hb (fun c hc=>World.putObj_heap_other hc) (hobj _ (World.putObj_heap_same hbs)),Mm hp.ext (hp.rel.low _ _ _ hH (by rw [Cc hl];exact hb)) _⟩
theorem Hc {l:Nat} {st:LoopState} {pe:Option Code} {t:Fm} {ps:List Tmp} {asg body:Code} {b:Nat} (hR:ObjR P x w l (.loop st pe t ps asg body)) (hb:x.ρ l=some ⟨b,0,none⟩) :
  ∃lr:Loop,w.heap[b]? = some (.loop lr)∧lr.state=st∧lr.pending=pe∧lr.params.toList=ps∧lr.assign=asg∧lr.body=body∧(Bk lr.tmps.size asg=true∧Bk lr.tmps.size body=true∧ps.all (fun p=>Nat.blt p lr.tmps.size)=true)∧FrmR x t lr.tmps:=by
 obtain ⟨b',lr,h1,h2⟩:=hR;rw [hb] at h1
 cases h1
 exact ⟨lr,h2⟩
theorem Sx {n:Nat} {s3:S} (h:Tf n t ms s3=some out):∃st pe t' ps asg body,s3.get (n+1)=some (.loop st pe t' ps asg body)∧st≠.busy ∧
  ((pe=none∧out=.norm t (n::ms) (s3.wr (n+1) (some (.loop .exhausted pe t' ps asg body))))∨(pe=some .ret∧out=.ret t (n::ms) (s3.wr (n+1) (some (.loop .exhausted pe t' ps asg body)))) ∨
   ∃id,pe=some (.exit id)∧out=.exit id t (n::ms) (s3.wr (n+1) (some (.loop .exhausted pe t' ps asg body)))):=by
 unfold Tf at h
 split at h
 ·cases h
 ·rename_i st pe t' ps asg body hne hg
  rw [Fh] at h;refine ⟨_,_,_,_,_,_,hg,fun e=>?_,?_⟩
  ·exact hne e
  ·cases pe with
   | none=>simp only [Option.some.injEq] at h;exact .inl ⟨rfl,h.symm⟩
   | some c =>
    cases c with
    | ret=>simp only [Option.some.injEq] at h;exact .inr (.inl ⟨rfl,h.symm⟩)
    | exit id=>simp only [Option.some.injEq] at h;exact .inr (.inr ⟨id,rfl,h.symm⟩)
    | _=>cases h
 ·cases h
theorem Y2 {run:Rn} (hr:RunOk P run) {r:Option Nat} {f:Operand} {ps:Array Tmp} {asg body:Code} (ho:s.Ok) (h:Qe run s t ms r f ps asg body=some out) :
  Stp s out.st∧out.st.Ok∧∀N,Bk N (.rangeFunc f ps asg body)=true→∀(w0:World) (H:Mem) (x:Cx) (w:World) (a:Act) (r':Option Nat),(r=none→r'=none)→Pre P w0 s out.st H x w→FrR x N t ms a→WP P r' (.rangeFunc f ps asg body) (CQ P w0 s H x N out) a w:=by
 unfold Qe at h
 cases r with
 | some _=>cases h
 | none =>
  simp only at h
  split at h
  ·rename_i g first cap ef
   rw [Tp,Tp] at h;obtain ⟨v,s3,h1,h2⟩:=Hk h;obtain ⟨p1,p2⟩:=Qm (ob:=.dfr true) ho;obtain ⟨q1,q2⟩:=Qm (ob:=.loop .ready none t ps.toList asg body) p2;obtain ⟨c1,c2,c3⟩:=hr.call g _ _ v s3 q2 h1;obtain ⟨st,pe,t',ps',asg',body',e1,e2,e3⟩:=Sx h2;obtain ⟨z1,z2⟩:=Ei (ob:=some (.loop .exhausted pe t' ps' asg' body')) c2 (c2.wf.lt e1);have hst:out.st=s3.wr (s.c+1) (some (.loop .exhausted pe t' ps' asg' body')):=by
    rcases e3 with ⟨_,rfl⟩|⟨_,rfl⟩|⟨id,_,rfl⟩<;>rfl
   have hstp:Stp s out.st:=by rw [hst];exact p1.trans (q1.trans (c1.trans z1))
   refine ⟨hstp,by rw [hst];exact z2,fun N hco w0 H x w a r' hr' hp hF=>?_⟩;unfold Bk at hco;rw [Bool.and_eq_true,Bool.and_eq_true,Bool.and_eq_true] at hco;obtain ⟨hfo,hps,ha,hb⟩:=hco;have hr0:=hr' rfl;subst hr0;rw [hst] at hp;refine wpIn_rangeFunc ?_;intro fn hfn;have hnm:s.c+1=(s.nw (.dfr true)).c:=rfl;obtain ⟨y1,a1,a2,a3,a4⟩:=N5 (rob:=.deferred (some [])) ho rfl (hp.first p1 (q1.trans (c1.trans z1))) (fun y hy hs=>⟨w.heap.size,hs,Mx w _⟩);have hp1:=hp.next p1 (q1.trans (c1.trans z1)) p2 a1 a3 a4;obtain ⟨y2,b1,b2,b3,b4⟩:=N5 (rob:=.loop { state:=.ready,pending:=none,fn,tmps:=a.tmps,params:=ps,assign:=asg,body,defers:=w.heap.size }) p2 rfl (hp1.first q1 (c1.trans z1))
    (fun y hy hs=>⟨_,_,hs,Mx _ _,rfl,rfl,rfl,rfl,rfl,⟨by rw [hF.size];exact ha,by rw [hF.size];exact hb,by simp only;rw [hF.size];exact hps⟩,hF.frm.mono (Cx.le_trans a1.le hy)⟩)
   have hE:=run_enterLoop_outer (P:=P) (w:=w) fn a.tmps ps asg body;generalize (w.alloc (.deferred (some []))).alloc (.loop { state:=.ready,pending:=none,fn,tmps:=a.tmps,params:=ps,assign:=asg,body,defers:=w.heap.size })=W1 at b3 b4 hE;have hp2:=hp1.next q1 (c1.trans z1) q2 b1 b3 b4;have hy2:x.le y2:=Cx.le_trans a1.le b1.le;have hD:y2.ρ s.c=some ⟨w.heap.size,0,none⟩:=(b1.le.1 _ _ a2).1;have hwl:(w.alloc (.deferred (some []))).heap.size=w.heap.size+1:=by simp
   rw [hwl] at b2;have gf:=Ms (o:=f) hF.frm hfo;rw [ef] at gf;generalize hx:a.eval f=fv at gf
   cases gf with
   | func hyl hq1 hq2 =>
    rename_i first' cap'
    have hargs:VRL y2 (first.toList++(.func (.yield (s.nw (.dfr true)).c) #[] #[]::cap.toList)) (first'.toList++(.func (.yield (w.heap.size+1)) #[] #[]::cap'.toList)) :=
     (hq1.mono hy2).app (.cons (.yld b2) (hq2.mono hy2))
    have hcall:=c3 w0 _ y2 _ _ (hp2.first c1 z1) hargs;have hent:=hr.ent _ _ _ _ _ h1;refine ⟨w.heap.size+1,[{ target:=.collected w.heap.size,args:=#[] }],W1,{ target:=.fn (.func g) cap',args:=first'++#[.func (.yield (w.heap.size+1)) #[] #[]] },W1,g,
     (first'++#[.func (.yield (w.heap.size+1)) #[] #[]])++cap',W1,hE,?_,fun _ _=>trivial,?_,fun h=>by simp [F0,Fence.wide] at h,?_⟩
    ·have e0:resolve a.eval (rangeCall f (w.heap.size+1)) 0=pure { target:=.fn (.func g) cap',args:=first'++#[.func (.yield (w.heap.size+1)) #[] #[]] }:=by
      unfold resolve;simp only;rw [hx];simp [Deferred.ofValue,Act.eval]
     rw [e0];rfl
    ·simp only [invoke];exact hent _ _
    ·have e4:(first'.toList++(.func (.yield (w.heap.size+1)) #[] #[]::cap'.toList)).toArray=(first'++#[.func (.yield (w.heap.size+1)) #[] #[]])++cap':=by apply Array.toList_inj.1;simp
     rw [e4] at hcall;refine E3.2 (Calls.mono hcall ?_);rintro e w3 ⟨v',rfl,y3,d1,d2,d3,d4⟩;have hp3:=hp2.next c1 z1 c2 d1 d3 d4;have hrec:y3.ρ (s.c+1)=some ⟨w.heap.size+1,0,none⟩:=(d1.le.1 _ _ b2).1;have hH3:Over (s.nw (.dfr true) |>.nw (.loop .ready none t ps.toList asg body)) s3 (Over (s.nw (.dfr true)) ((s.nw (.dfr true)).nw (.loop .ready none t ps.toList asg body)) (Over s (s.nw (.dfr true)) H)) (s.c+1)=some (.loop st pe t' ps' asg' body'):=by
      rw [←e1];exact hp3.agree (s.c+1) (c2.wf.lt e1) (by show (s3.T ||| 2 ^ (s.c+1)).testBit (s.c+1)=true;rw [Nat.testBit_or,Ce];simp)
     obtain ⟨lr,k1,k2,k3,k4,k5,k6,k7,k8⟩:=Hc (hp3.rel.obj _ _ hH3) hrec;refine ⟨lr.pending,_,run_endLoop (P:=P) k1 (by rw [k2];exact e2),?_⟩;obtain ⟨m1,m2⟩:=M1 (rob:=.loop { lr with state:=.exhausted }) c2 hp3 e1 rfl rfl hrec (fun w' hw'=>⟨_,_,hrec,hw',rfl,k3,k4,k5,k6,k7,k8⟩);have hmk:FrR y3 N t (s.c::ms) { a with defers:=[{ target:=.collected w.heap.size,args:=#[] }]++a.defers } :=
      ⟨hF.frm.mono (Cx.le_trans hy2 d1.le),hF.size,.cons ⟨_,(d1.le.1 _ _ hD).1,rfl⟩ ((hF.marks.imp fun _ _ q=>q.mono (Cx.le_trans hy2 d1.le)))⟩
     have hto:x.to y3 s.c (s3.wr (s.c+1) (some (.loop .exhausted pe t' ps' asg' body'))).c:=Cx.to_trans a1 (Cx.to_trans b1 d1 q1.c c1.c) p1.c (Nat.le_trans q1.c c1.c);have hov:Over s3 (s3.wr (s.c+1) (some (.loop .exhausted pe t' ps' asg' body'))) (Over (s.nw (.dfr true) |>.nw (.loop .ready none t ps.toList asg body)) s3 (Over (s.nw (.dfr true)) ((s.nw (.dfr true)).nw (.loop .ready none t ps.toList asg body)) (Over s (s.nw (.dfr true)) H))) =
       Over s (s3.wr (s.c+1) (some (.loop .exhausted pe t' ps' asg' body'))) H:=by
      rw [Over.trans c1 z1,Over.trans q1 (c1.trans z1),Over.trans p1 (q1.trans (c1.trans z1))]
     rw [hov] at m1;have hat:At P w0 s (s3.wr (s.c+1) (some (.loop .exhausted pe t' ps' asg' body'))) H x N t (s.c::ms) { a with defers:=[{ target:=.collected w.heap.size,args:=#[] }]++a.defers } (w3.putObj (w.heap.size+1) (.loop { lr with state:=.exhausted })):=⟨y3,hto,m1,m2,hmk⟩;rw [k3] at hat;rw [k3];rcases e3 with ⟨rfl,rfl⟩|⟨rfl,rfl⟩|⟨id,rfl,rfl⟩
     ·exact hat
     ·exact wpIn_ret hat
     ·exact wpIn_exit ⟨rfl,hat⟩
  ·cases h
theorem Nk:∀{ps:List Tmp} {vs vs':List Value} {t t1:Fm} {tm:Array Value},Nj ps vs t=some t1→VRL x vs vs'→FrmR x t tm→ps.all (fun p=>Nat.blt p tm.size)=true →
  ps.length=vs'.length∧∃tm',tm'=(ps.zip vs').foldl (fun tmps (p:Tmp×Value)=>tmps.setIfInBounds p.1 p.2) tm∧tm'.size=tm.size∧FrmR x t1 tm'
 | [],[],_,t,t1,tm,h,.nil,hF,_=>by simp only [Nj,Option.some.injEq] at h;subst h;exact ⟨rfl,_,rfl,rfl,hF⟩
 | [],_::_,_,t,t1,tm,h,_,_,_=>by simp [Nj] at h
 | _::_,[],_,t,t1,tm,h,_,_,_=>by simp [Nj] at h
 | p::ps,v::vs,v'::vs',t,t1,tm,h,.cons hv hvs,hF,hlt=>by
  rw [List.all_cons,Bool.and_eq_true] at hlt;have hp:p<tm.size:=by have:=hlt.1;rwa [Nat.blt_eq] at this
  unfold Nj at h;have hF1:FrmR x (Tr.s (pn p) (some v) t) (tm.setIfInBounds p v'):=by
   have:=FrmR.put (a:={ tmps:=tm,defers:=[] }) (d:=some p) hF hv (fun q hq=>by cases hq;exact hp)
   exact this
  obtain ⟨h1,tm',h2,h3,h4⟩:=Nk h hvs hF1 (by simpa using hlt.2);exact ⟨by simp [h1],tm',by rw [h2];rfl,by rw [h3];simp,h4⟩
theorem Vb {l:Nat} {jump:Option Code} (h:Va l jump s=some out):∃st pe t ps asg body,s.get l=some (.loop st pe t ps asg body)∧out=.val (.bool jump.isNone) (s.wr l (some (.loop (if jump.isNone then .ready else .done) jump t ps asg body))):=by
 unfold Va at h
 split at h
 ·rename_i st pe t ps asg body hg
  rw [Fh,Mn] at h;simp only [Option.some.injEq] at h;exact ⟨_,_,_,_,_,_,hg,h.symm⟩
 ·cases h
theorem A18 {run:Rn} (hc:K6 P run) {l:Nat} {args:List Value} {v:Value} (ho:s.Ok) (h:Yv run s l args=some (.val v s')) :
  Stp s s'∧s'.Ok∧∀(w0:World) (H:Mem) (x:Cx) (w:World) (args':List Value) (b:Nat) (r:Option Nat),Pre P w0 s s' H x w→VRL x args args'→x.ρ l=some ⟨b,0,none⟩ →
   ∃f tmps assign body,(Instr.yield b args'.toArray).run P w=.ok (.round b f tmps assign body) w∧RoundIn (F0 r) 0 P b f tmps assign body w (fun e w'=>∃v',e=.returned v'∧Post P w0 s s' v H x v' w'):=by
 unfold Yv at h
 split at h
 ·rename_i pe t ps asg body hg
  obtain ⟨t1,ht1,h⟩:=Au h;rw [Kv] at h;have ho1:S.Ok (s.rd l):=F8 ho Ah;have hs1:Stp s (s.rd l):=Df Ah;rcases Fo h with ⟨t2,ms2,s2,h1,h2⟩|⟨_,_,_,_,_,h2⟩|⟨_,_,_,_,h2⟩
  ·clear h
   unfold Zm at h2
   split at h2
   ·rename_i pe2 t2' ps2 asg2 body2 hg2
    rw [Fh] at h2;have body_out:∃o4 jump,run (.code body t2 ms2 (some l)) (s2.wr l (some (.loop .busy pe2 t2' ps2 asg2 body2)))=some o4∧Va l jump o4.st=some (.val v s') ∧
      ((∃t4 ms4,o4=.norm t4 ms4 o4.st∧jump=none)∨(∃id t4 ms4,o4=.exit id t4 ms4 o4.st∧jump=some (.exit id))∨∃t4 ms4,o4=.ret t4 ms4 o4.st∧jump=some .ret):=by
     rcases Fo h2 with ⟨t4,ms4,s4,q1,q2⟩|⟨id,t4,ms4,s4,q1,q2⟩|⟨t4,ms4,s4,q1,q2⟩
     ·exact ⟨_,_,q1,q2,.inl ⟨t4,ms4,rfl,rfl⟩⟩
     ·exact ⟨_,_,q1,q2,.inr (.inl ⟨id,t4,ms4,rfl,rfl⟩)⟩
     ·exact ⟨_,_,q1,q2,.inr (.inr ⟨t4,ms4,rfl,rfl⟩)⟩
    clear h2
    obtain ⟨o4,jump,h3,h4,h5⟩:=body_out;obtain ⟨st5,pe5,t5,ps5,asg5,body5,hg5,h6⟩:=Vb h4
    cases h6
    obtain ⟨p1,p2,m1,p3⟩:=hc asg t1 [] (some l) (s.rd l) _ ho1 h1;have p1:Stp (s.rd l) s2:=p1;have p2:s2.Ok:=p2;obtain ⟨q1,q2⟩:=Ei (ob:=some (.loop .busy pe2 t2' ps2 asg2 body2)) p2 (p2.wf.lt hg2);obtain ⟨c1,c2,m2,c3⟩:=hc body t2 ms2 (some l) _ _ q2 h3;obtain ⟨z1,z2⟩:=Ei (ob:=some (.loop (if jump.isNone then .ready else .done) jump t5 ps5 asg5 body5)) c2 (c2.wf.lt hg5);refine ⟨hs1.trans (p1.trans (q1.trans (c1.trans z1))),z2,fun w0 H x w args' b r hp hv hb=>?_⟩;have hbit:∀T:Nat,(T ||| 2 ^ l).testBit l=true:=fun T=>by rw [Nat.testBit_or,Ce];simp
    have hp1:Pre P w0 (s.rd l) _ H x w:=Pre.afterRd ho Ah (p1.trans (q1.trans (c1.trans z1))) hp;have hH:H l=some (.loop .ready pe t ps asg body):=by
     rw [←hg];exact hp1.agree l (ho.wf.lt hg) ((p1.trans (q1.trans (c1.trans z1))).T l (hbit s.T))
    obtain ⟨lr,k1,k2,k3,k4,k5,k6,⟨k7a,k7b,k7c⟩,k8⟩:=Hc (hp.rel.obj _ _ hH) hb;have hF0:FrmR x t lr.tmps:=k8;obtain ⟨f1,tm',f2,f3,f4⟩:=Nk ht1 hv hF0 k7c;have hsz:args'.toArray.size=lr.params.size:=by rw [←k4] at f1;simpa using f1.symm
    refine ⟨lr.fn,_,lr.assign,lr.body,run_yield (P:=P) k1 hsz,roundIn_of_wpIn (F:=F0 r) trivial ?_⟩;have htm:((lr.params.zip args'.toArray).foldl (fun tmps (x:Tmp×Value)=>tmps.setIfInBounds x.1 x.2) lr.tmps)=tm':=by
     rw [f2,←Array.foldl_toList]
     congr 1
     rw [←k4];simp
    rw [show ((lr.params.zip args'.toArray).foldl (fun tmps (x:Tmp×Value)=>match x with|(t,a)=>tmps.setIfInBounds t a) lr.tmps)=tm' from htm]
    rw [k5,k6];have hfr1:FrR x lr.tmps.size t1 [] { tmps:=tm',defers:=[] }:=⟨f4,f3,.nil⟩;have w1:=(p3 lr.tmps.size k7a w0 H x w _ (some b) (fun q=>by cases q) (hp1.first p1 (q1.trans (c1.trans z1))) hfr1).wp
    refine wpIn_mono w1 ?_;intro e a1 w1' hq
    cases e<;>first|exact hq.elim|skip
    obtain ⟨y1,u1,u2,u3,u4⟩:=hq;have hp2:=hp1.next p1 (q1.trans (c1.trans z1)) p2 u1 u2 u3;have hy1:y1.ρ l=some ⟨b,0,none⟩:=(u1.le.1 _ _ hb).1;have hH2:Over (s.rd l) s2 H l=some (.loop .ready pe2 t2' ps2 asg2 body2):=by
     rw [←hg2];exact hp2.agree l (p2.wf.lt hg2) ((c1.trans z1).T l (hbit s2.T))
    obtain ⟨l2,g1,g2,g3,g4,g5,g6,g7,g8⟩:=Hc (hp2.rel.obj _ _ hH2) hy1;refine ⟨_,run_beginRound (P:=P) g1 g2,?_⟩;obtain ⟨v1,v2⟩:=M1 (rob:=.loop { l2 with state:=.busy }) p2 (hp2.first q1 (c1.trans z1)) hg2 rfl rfl hy1 (fun w' hw'=>⟨_,_,hy1,hw',rfl,g3,g4,g5,g6,g7,g8⟩);have hp3:=hp2.next q1 (c1.trans z1) q2 (y1.to_refl _ _) v1 v2;have w2:=(c3 lr.tmps.size k7b w0 _ y1 _ a1 (some b) (fun q=>by cases q) (hp3.first c1 z1) u4).wp
    refine wpIn_mono w2 ?_;have fin:∀(a2:Act) (w2':World) (t4:Fm) (ms4:List Nat),At P w0 (s2.wr l (some (.loop .busy pe2 t2' ps2 asg2 body2))) o4.st (Over s2 (s2.wr l (some (.loop .busy pe2 t2' ps2 asg2 body2))) (Over (s.rd l) s2 H)) y1 lr.tmps.size t4 ms4 a2 w2' →
      ∃v w',(Instr.endRound b jump).run P w2'=.ok v w'∧∃v',Ending.returned v=.returned v'∧Post P w0 s (o4.st.wr l (some (.loop (if jump.isNone then .ready else .done) jump t5 ps5 asg5 body5))) (.bool jump.isNone) H x v' w':=by
     rintro a2 w2' t4 ms4 ⟨y2,e1,e2,e3,e4⟩;have hp4:=hp3.next c1 z1 c2 e1 e2 e3;have hy2:y2.ρ l=some ⟨b,0,none⟩:=(e1.le.1 _ _ hy1).1;have hH5:Over (s2.wr l (some (.loop .busy pe2 t2' ps2 asg2 body2))) o4.st (Over s2 (s2.wr l (some (.loop .busy pe2 t2' ps2 asg2 body2))) (Over (s.rd l) s2 H)) l=some (.loop st5 pe5 t5 ps5 asg5 body5):=by
      rw [←hg5];exact hp4.agree l (c2.wf.lt hg5) (hbit o4.st.T)
     obtain ⟨l5,r1,r2,r3,r4,r5,r6,r7,r8⟩:=Hc (hp4.rel.obj _ _ hH5) hy2;refine ⟨_,_,run_endRound (P:=P) jump r1,_,rfl,y2,?_,.bool _,?_⟩
     ·exact Cx.to_trans (Cx.to_trans u1 (y1.to_refl (s2.c) (s2.wr l (some (.loop .busy pe2 t2' ps2 asg2 body2))).c) p1.c q1.c) e1 (Nat.le_trans p1.c q1.c) c1.c
     ·obtain ⟨x1,x2⟩:=M1 (rob:=.loop { l5 with state:=if jump.isNone then .ready else .done,pending:=jump }) c2 hp4 hg5 rfl rfl hy2 (fun w' hw'=>⟨_,_,hy2,hw',rfl,rfl,r4,r5,r6,r7,r8⟩);rw [Over.trans c1 z1,Over.trans q1 (c1.trans z1),Over.trans p1 (q1.trans (c1.trans z1))] at x1;exact ⟨x1,x2⟩
    intro e a2 w2' hq2;rcases h5 with ⟨t4,ms4,e4,rfl⟩|⟨id,t4,ms4,e4,rfl⟩|⟨t4,ms4,e4,rfl⟩
    ·rw [e4] at hq2
     cases e<;>first|exact hq2.elim|exact fin a2 w2' t4 ms4 hq2
    ·rw [e4] at hq2
     cases e<;>first|exact hq2.elim|skip
     obtain ⟨rfl,hq2⟩:=hq2;exact fin a2 w2' t4 ms4 hq2
    ·rw [e4] at hq2
     cases e<;>first|exact hq2.elim|exact fin a2 w2' t4 ms4 hq2
   ·cases h2
  ·cases h2
  ·cases h2
 ·cases h
end
end Go.Ev
namespace Go.Ev
open Go Go.Eng
set_option linter.unusedVariables false
section
variable {x y:Cx}
mutual
theorem VR.down (hx:x.le y) (hz:∀n a,x.ρ n=some a→y.z n=x.z n):∀{v v' v'':Value},VR x v v'→VR y v v''→VR x v v''
 | _,_,_,.bool _,.bool b=>.bool b
 | _,_,_,.int _ _,.int k n=>.int k n
 | _,_,_,.string _,.string s=>.string s
 | _,_,_,.nilFunc,.nilFunc=>.nilFunc
 | _,_,_,.nilIface,.nilIface=>.nilIface
 | _,_,_,.pnil,.pnil=>.pnil
 | _,_,_,.ptr h,.ptr h'=>.ptr (by have:=(hx.1 _ _ h).1;rw [h'] at this;rw [h,this])
 | _,_,_,.snil,.snil=>.snil
 | _,_,_,.sl h _ _,.sl h' ho hc=>.sl (by have:=(hx.1 _ _ h).1;rw [h'] at this;rw [h,this]) ho (hc.imp id fun ⟨sz,e,h1,h2⟩=>⟨sz,e,by rw [←hz _ _ h];exact h1,h2⟩)
 | _,_,_,.mnil,.mnil=>.mnil
 | _,_,_,.map h,.map h'=>.map (by have:=(hx.1 _ _ h).1;rw [h'] at this;rw [h,this])
 | _,_,_,.func hf h1 h2,.func _ h1' h2'=>.func hf (VRL.down hx hz h1 h1') (VRL.down hx hz h2 h2')
 | _,_,_,.func hf h1 h2,.yld _=>absurd rfl (hf _)
 | _,_,_,.yld h,.func hf _ _=>absurd rfl (hf _)
 | _,_,_,.yld h,.yld h'=>.yld (by have:=(hx.1 _ _ h).1;rw [h'] at this;rw [h,this])
 | _,_,_,.iface h,.iface h'=>.iface (VR.down hx hz h h')
 | _,_,_,.agg h,.agg h'=>.agg (VRL.down hx hz h h')
 | _,_,_,.tuple h,.tuple h'=>.tuple (VRL.down hx hz h h')
theorem VRL.down (hx:x.le y) (hz:∀n a,x.ρ n=some a→y.z n=x.z n):∀{l l' l'':List Value},VRL x l l'→VRL y l l''→VRL x l l''
 | _,_,_,.nil,.nil=>.nil
 | _,_,_,.cons h t,.cons h' t'=>.cons (VR.down hx hz h h') (VRL.down hx hz t t')
end
theorem Ua (hx:x.le y) (hz:∀n a,x.ρ n=some a→y.z n=x.z n):∀{es es' es'':List MapEntry},A2 (ER x) es es'→A2 (ER y) es es''→A2 (ER x) es es''
 | _,_,_,.nil,.nil=>.nil
 | _,_,_,.cons h t,.cons h' t'=>.cons ⟨h'.key,h'.ok,h.val.down hx hz h'.val,h'.born⟩ (Ua hx hz t t')
theorem ObjR.down {P:Program} {w w':World} {p:Nat} {o:AObj} (hx:x.le y) (hz:∀n a,x.ρ n=some a→y.z n=x.z n) (h:ObjR P x w p o) (h':ObjR P y w' p o):ObjR P x w' p o:=by
 cases o with
 | hd size e g =>
  obtain ⟨b,o,n,h1,h2,h3,h4,h5⟩:=h;obtain ⟨b',o',n',k1,k2,k3,k4,k5⟩:=h';have:=(hx.1 _ _ h1).1;rw [k1] at this
  cases this
  exact ⟨b,o,n',h1,k2,⟨k3.1,h3.2⟩,h4,fun sz en q=>k5 sz en (by rw [hz _ _ h1];exact q)⟩
 | cell own v =>
  obtain ⟨b,o,v',h1,h2,h3,h4,h5⟩:=h;obtain ⟨b',o',v'',k1,k2,k3,k4,k5⟩:=h';have:=(hx.1 _ _ h1).1;rw [k1] at this
  cases this
  exact ⟨b,o,v'',h1,h2,k3,k4,h5.down hx hz k5⟩
 | map es ck =>
  obtain ⟨b,es',h1,h2,h3⟩:=h;obtain ⟨b',es'',k1,k2,k3⟩:=h';have:=(hx.1 _ _ h1).1;rw [k1] at this
  cases this
  exact ⟨b,es'',h1,k2,Ua hx hz h3 k3⟩
 | loop st pe t ps asg body =>
  obtain ⟨b,l,h1,h2,h3,h4,h5,h6,h7,h8,h9⟩:=h;obtain ⟨b',l',k1,k2,k3,k4,k5,k6,k7,k8,k9⟩:=h';have:=(hx.1 _ _ h1).1;rw [k1] at this
  cases this
  exact ⟨b,l',h1,k2,k3,k4,k5,k6,k7,k8,fun i=>(h9 i).down hx hz (k9 i)⟩
 | dfr f =>
  obtain ⟨b,h1,h2⟩:=h;obtain ⟨b',k1,k2⟩:=h';have:=(hx.1 _ _ h1).1;rw [k1] at this
  cases this
  exact ⟨b,h1,k2⟩
end
section
variable {P:Program} {w0 w w':World} {s s1 s2 s':S} {H:Mem} {x y:Cx} {N:Nat} {t:Fm} {ms:List Nat} {a:Act} {out:Out} {e:Exit} {v v':Value}
theorem W3 (ho:s.Ok) (h:Stp ⟨s.h,s.c,0,0,s.m⟩ s2) (hok:s2.Ok) :
  Stp s ⟨s2.h,s2.c,s.T ||| s2.T,s.W ||| s2.W,s.m⟩∧S.Ok ⟨s2.h,s2.c,s.T ||| s2.T,s.W ||| s2.W,s.m⟩∧∀{w0:World} {H:Mem} {x:Cx} {w:World},Pre P w0 s ⟨s2.h,s2.c,s.T ||| s2.T,s.W ||| s2.W,s.m⟩ H x w →
   Pre P w0 ⟨s.h,s.c,0,0,s.m⟩ s2 H x w∧∀{v v':Value} {w':World},Post P w0 ⟨s.h,s.c,0,0,s.m⟩ s2 v H x v' w'→Post P w0 s ⟨s2.h,s2.c,s.T ||| s2.T,s.W ||| s2.W,s.m⟩ v H x v' w':=by
 have hst:Stp s ⟨s2.h,s2.c,s.T ||| s2.T,s.W ||| s2.W,s.m⟩:=by
  refine ⟨fun hw p hp=>h.wf (fun p hp=>hw p hp) p hp,h.c,Ah,Ah,fun p hp hW=>?_,fun p hp=>?_,rfl⟩
  ·have hW:(s.W ||| s2.W).testBit p=false:=hW;rw [Nat.testBit_or,Bool.or_eq_false_iff] at hW;exact h.same p hp hW.2
  ·have hp:(s.W ||| s2.W).testBit p=true:=hp;show s.W.testBit p=true∨(s.T ||| s2.T).testBit p=true;rw [Nat.testBit_or,Bool.or_eq_true] at hp ⊢;rcases hp with q|q
   ·exact .inl q
   ·exact .inr (.inr (hok.W p q).1)
 refine ⟨hst,⟨hok.wf,fun p hp=>?_⟩,fun {w0 H x w} hp=>⟨⟨fun p h1 h2=>?_,fun p h1 h2=>hp.fresh p h1 h2,hp.rel,hp.ext,hp.none⟩,fun {v v' w'} hq=>?_⟩⟩
 ·have hp:(s.W ||| s2.W).testBit p=true:=hp;show (s.T ||| s2.T).testBit p=true∧p<s2.c;rw [Nat.testBit_or,Bool.or_eq_true] at hp ⊢;rcases hp with q|q
  ·have:=ho.W p q;have hc:=h.c;simp only at hc;exact ⟨.inl this.1,by omega⟩
  ·exact ⟨.inr (hok.W p q).1,(hok.W p q).2⟩
 ·exact hp.agree p h1 (by show (s.T ||| s2.T).testBit p=true;rw [Nat.testBit_or,h2,Bool.or_true])
 ·obtain ⟨y,y1,y2,y3,y4⟩:=hq;refine ⟨y,y1,y2,?_,y4⟩;have hov:Over ⟨s.h,s.c,0,0,s.m⟩ s2 H=Over s ⟨s2.h,s2.c,s.T ||| s2.T,s.W ||| s2.W,s.m⟩ H:=by
   funext p
   unfold Over
   by_cases hc:(s.c≤p∧p<s2.c)∨s2.W.testBit p=true
   ·rw [if_pos hc,if_pos]
    ·rfl
    ·rcases hc with q|q
     ·exact .inl q
     ·exact .inr (by show (s.W ||| s2.W).testBit p=true;rw [Nat.testBit_or,q,Bool.or_true])
   ·rw [if_neg hc]
    by_cases hc2:(s.c≤p∧p<s2.c)∨(s.W ||| s2.W).testBit p=true
    ·rw [if_pos hc2];rcases hc2 with q|q
     ·exact absurd (.inl q) hc
     ·rw [Nat.testBit_or,Bool.or_eq_true] at q;rcases q with q|q
      ·have h1:=hp.W ho hst p q;rw [h1.1];exact (h.same p h1.2 (Be fun e=>hc (.inr e))).symm
      ·exact absurd (.inr q) hc
    ·rw [if_neg hc2]
  rw [←hov];exact y3
theorem Qg {T c p:Nat}:(T%2 ^ c).testBit p=(decide (p<c)&&T.testBit p):=by rw [Nat.testBit_mod_two_pow]
theorem W4 (ho:s.Ok) (h:Stp ⟨s.h,s.c,0,0,s.m⟩ s2) (hok:s2.Ok) (hW:Nat.beq (s2.W%2 ^ s.c) 0=true) (hg:gnd 6 v=true) {c':Nat} (hc':(s.m=false∧c'=s.c)∨(s.m=true∧c'=s2.c)) :
  Stp s ⟨s.h,c',s.T ||| (s2.T%2 ^ s.c),s.W,s.m⟩∧S.Ok ⟨s.h,c',s.T ||| (s2.T%2 ^ s.c),s.W,s.m⟩∧∀{w0:World} {H:Mem} {x:Cx} {w:World},Pre P w0 s ⟨s.h,c',s.T ||| (s2.T%2 ^ s.c),s.W,s.m⟩ H x w →
   Pre P w0 ⟨s.h,s.c,0,0,s.m⟩ s2 H x w∧∀{v':Value} {w':World},Post P w0 ⟨s.h,s.c,0,0,s.m⟩ s2 v H x v' w'→Post P w0 s ⟨s.h,c',s.T ||| (s2.T%2 ^ s.c),s.W,s.m⟩ v H x v' w':=by
 have hsc:s.c≤s2.c:=h.c;have hcc:s.c≤c':=by rcases hc' with ⟨_,q⟩|⟨_,q⟩<;>omega
 have hWn:∀p,p<s.c→s2.W.testBit p=false:=fun p hp=>Be fun e=>by
  have h0:=Nat.eq_of_beq_eq_true hW;have:=Qg (T:=s2.W) (c:=s.c) (p:=p);rw [h0,Nat.zero_testBit,e] at this;simp [hp] at this
 have hst:Stp s ⟨s.h,c',s.T ||| (s2.T%2 ^ s.c),s.W,s.m⟩ :=
  ⟨fun hw p hp=>hw p (Nat.le_trans hcc hp),hcc,Ah,fun _ q=>q,fun _ _ _=>rfl,fun _ q=>.inl q,rfl⟩
 refine ⟨hst,⟨fun p hp=>ho.wf p (Nat.le_trans hcc hp),fun p hp=>?_⟩,fun {w0 H x w} hp=>⟨⟨fun p h1 h2=>?_,fun p h1 h2=>?_,hp.rel,hp.ext,hp.none⟩,fun {v' w'} hq=>?_⟩⟩
 ·have hp:s.W.testBit p=true:=hp;exact ⟨Ah p (ho.W p hp).1,Nat.lt_of_lt_of_le (ho.W p hp).2 hcc⟩
 ·have h1:p<s.c:=h1;refine hp.agree p h1 ?_;show (s.T ||| (s2.T%2 ^ s.c)).testBit p=true;rw [Nat.testBit_or,Qg,h2];simp [h1]
 ·refine hp.fresh p h1 ?_;rcases h2 with q|q
  ·rcases hc' with ⟨q1,q2⟩|⟨q1,q2⟩
   ·exact .inr q1
   ·exact .inl (by show p<c';omega)
  ·exact .inr q
 ·obtain ⟨y,y1,y2,y3,y4⟩:=hq;have hov:Over s ⟨s.h,c',s.T ||| (s2.T%2 ^ s.c),s.W,s.m⟩ H=fun p=>if s.c≤p∧p<c' then none else H p:=by
   funext p
   unfold Over
   by_cases hc:s.c≤p∧p<c'
   ·rw [if_pos (.inl hc),if_pos hc];exact ho.wf p hc.1
   ·rw [if_neg hc]
    by_cases hc2:s.W.testBit p=true
    ·rw [if_pos (.inr hc2)];exact (hp.W ho hst p hc2).1.symm
    ·rw [if_neg];rintro (q|q)
     ·exact hc q
     ·exact hc2 q
  have hold:∀p,¬(s.c≤p∧p<s2.c)→Over ⟨s.h,s.c,0,0,s.m⟩ s2 H p=H p:=by
   intro p hn;unfold Over;rw [if_neg];rintro (q|q)
   ·exact hn q
   ·have:=(hok.W p q).2;rcases Nat.lt_or_ge p s.c with e|e
    ·rw [hWn p e] at q;cases q
    ·exact hn ⟨e,this⟩
  have hveq:=y2.gnd_eq 6 hg;subst hveq;rcases hc' with ⟨hm,rfl⟩|⟨hm,rfl⟩
  ·refine ⟨x,x.to_refl _ _,Ct 6 v' hg,?_,y4⟩;have e0:(fun p=>if s.c≤p∧p<s.c then none else H p)=H:=by
    funext p
    rw [if_neg (by omega)]
   rw [hov,e0];refine ⟨fun p o hpo=>?_,hp.rel.inj,hp.rel.low⟩;have hlt:p<s.c:=by
    rcases Nat.lt_or_ge p s.c with q|q
    ·exact q
    ·rw [hp.none hm p q] at hpo;cases hpo
   have h2:Over ⟨s.h,s.c,0,0,s.m⟩ s2 H p=some o:=by rw [hold p (by omega)];exact hpo
   refine (hp.rel.obj p o hpo).down y1.le (fun n b hn=>?_) (y3.obj p o h2);have hns:n<s.c:=by
    rcases Nat.lt_or_ge n s.c with q|q
    ·exact q
    ·have:=(hp.fresh n q (.inr hm)).1;rw [hn] at this;cases this
   exact (y1.only n (by simp only;omega)).2
  ·refine ⟨y,y1,Ct 6 v' hg,?_,y4⟩;rw [hov];refine y3.less fun p o hpo=>?_
   split at hpo
   ·cases hpo
   ·rename_i hn
    rw [hold p hn];exact hpo
theorem Wa {args:List Value} (h:Y6 s args v s2=some out):(out=.val v ⟨s2.h,s2.c,s.T ||| s2.T,s.W ||| s2.W,s.m⟩) ∨
  (Nat.beq (s2.W%2 ^ s.c) 0=true∧gnd 6 v=true∧((∃c',((s.m=false∧c'=s.c)∨(s.m=true∧c'=s2.c))∧out=.val v ⟨s.h,c',s.T ||| (s2.T%2 ^ s.c),s.W,s.m⟩) ∨
   (out=.val v s∧Nat.beq (s2.T%2 ^ s.c) 0=true∧args.all (gnd 6)=true))):=by
 unfold Y6 at h
 cases hb:(Nat.beq (s2.W%2 ^ s.c) 0&&gnd 6 v) with
 | false =>
  rw [hb] at h;have h:fN (s.T ||| s2.T) (sh0 s v s2)=some out:=h;rw [B9] at h;unfold sh0 at h;rw [B9] at h;unfold sh1 at h;simp only [Option.some.injEq] at h;exact .inl h.symm
 | true =>
  rw [hb] at h;rw [Bool.and_eq_true] at hb;have h:fN (s2.T%2 ^ s.c) (sh2 s args v s2)=some out:=h;rw [B9] at h;refine .inr ⟨hb.1,hb.2,?_⟩;unfold sh2 at h
  cases hm:s.m with
  | false =>
   rw [hm] at h;have h:fN (s.T ||| (s2.T%2 ^ s.c)) (sh3 s v)=some out:=h;rw [B9] at h;unfold sh3 at h;simp only [Option.some.injEq] at h;exact .inl ⟨s.c,.inl ⟨rfl,rfl⟩,by rw [←hm];exact h.symm⟩
  | true =>
   rw [hm] at h
   cases hz:(Nat.beq (s2.T%2 ^ s.c) 0&&args.all (gnd 6)) with
   | false =>
    rw [hz] at h;have h:fN (s.T ||| (s2.T%2 ^ s.c)) (sh4 s v s2)=some out:=h;rw [B9] at h;unfold sh4 at h;simp only [Option.some.injEq] at h;exact .inl ⟨s2.c,.inr ⟨rfl,rfl⟩,by rw [←hm];exact h.symm⟩
   | true =>
    rw [hz] at h;rw [Bool.and_eq_true] at hz;have h:some (Out.val v s)=some out:=h;simp only [Option.some.injEq] at h;exact .inr ⟨h.symm,hz.1,hz.2⟩
end
end Go.Ev
namespace Go.Ev
open Go Go.Eng
set_option linter.unusedVariables false
section
variable {P:Program} {w0 w w':World} {s s1 s2 s':S} {H:Mem} {x y:Cx} {N:Nat} {t:Fm} {ms:List Nat} {a:Act} {out:Out} {e:Exit} {v v':Value}
theorem Y3 {i:Nat} {l:List ResultVar} {K:List Value→S→Option Out}:Nd P t (.tmp i::l) s K=t.K (.t (pn i)) fun v=>Nd P t l s fun l=>K (v::l):=rfl
theorem W7 {i ty:Nat} {l:List ResultVar} {K:List Value→S→Option Out}:Nd P t (.cell i ty::l) s K=t.K (.t (pn i)) fun a=>vP a fun n off=>oO (Lj P ty) fun g=>oO (Bool.rec (motive:=fun _=>Option Nat) (some 1) (szT P ty) g) fun z =>
  s.loadK n off z fun v=>s.rdsK (n+1+off) z fun s=>Bool.rec (motive:=fun _=>Option Out) (List.rec (motive:=fun _=>Option Out) none (fun v _ _=>Nd P t l s fun l=>K (v::l)) v) (Nd P t l s fun l=>K (.agg ⟨v⟩::l)) g:=rfl
theorem Z8:∀(l:List ResultVar) (s:S) (K:List Value→S→Option Out),s.Ok→Nd P t l s K=some out→∃vs T,K vs ⟨s.h,s.c,T,s.W,s.m⟩=some out∧(∀p,s.T.testBit p=true→T.testBit p=true) ∧
  ∀(s2:S),Stp ⟨s.h,s.c,T,s.W,s.m⟩ s2→∀(w0:World) (H:Mem) (x:Cx) (w:World) (tmps:Array Value),Pre P w0 s s2 H x w→FrmR x t tmps→∃vs',(l.mapM (Ff tmps)).run P w=.ok vs' w∧VRL x vs vs':=by
 intro l
 induction l with
 | nil =>
  intro s K ho h;exact ⟨[],s.T,h,fun _ q=>q,fun s2 hs w0 H x w tmps hp hF=>⟨[],by simp,.nil⟩⟩
 | cons rv l ih =>
  intro s K ho h
  cases rv with
  | tmp i =>
   rw [Y3,Aj] at h;obtain ⟨vs,T,h1,h2,h3⟩:=ih s _ ho h;refine ⟨_,T,h1,h2,fun s2 hs w0 H x w tmps hp hF=>?_⟩;obtain ⟨vs',q1,q2⟩:=h3 s2 hs w0 H x w tmps hp hF;have hv:=Ms (a:={ tmps,defers:=[] }) hF (o:=.tmp i) rfl;refine ⟨tmps.getD i undef::vs',?_,.cons hv q2⟩;simp [List.mapM_cons,Ff,q1]
  | cell i ty =>
   rw [W7,Aj] at h;obtain ⟨n,off,e1,h⟩:=K4 h;obtain ⟨g,hg,h⟩:=Au h;obtain ⟨z,hz,h⟩:=Au h;rw [Gt] at h;obtain ⟨cs,hl,h⟩:=Au h;rw [Jx] at h;have ho1:S.Ok (s.rds (n+1+off) z):=F8 ho Ah;have main:∃v0,(∃K',Nd P t l (s.rds (n+1+off) z) K'=some out∧K'=fun l=>K (v0::l))∧∀(s2:S),Stp (s.rds (n+1+off) z) s2→∀(w0:World) (H:Mem) (x:Cx) (w:World) (tmps:Array Value),Pre P w0 s s2 H x w→FrmR x t tmps →
     ∃v',(Ff tmps (.cell i ty)).run P w=.ok v' w∧VR x v0 v':=by
    have real:∀(s2:S),Stp (s.rds (n+1+off) z) s2→∀(w0:World) (H:Mem) (x:Cx) (w:World) (tmps:Array Value),Pre P w0 s s2 H x w→FrmR x t tmps →
      ∃b o' l',tmps.getD i undef=.pointer (some ⟨b,o'+off,none⟩)∧VRL x cs l'∧l'.length=z∧∀j u,l'[j]? = some u→w.cell? ⟨b,o'+off+j,none⟩=some u:=by
     intro s2 hs w0 H x w tmps hp hF;have g1:=Ms (a:={ tmps,defers:=[] }) hF (o:=.tmp i) rfl;have g1:VR x (t.v (.t (pn i))) (tmps.getD i undef):=g1;rw [e1] at g1;obtain ⟨b,o',k1,k2⟩:=g1.ptrI;obtain ⟨hlen,hget⟩:=Bo hl;obtain ⟨l',q1,q2,q3⟩:=D0 hp.rel hl (fun p hp1 hp2=>by
      obtain ⟨j,rfl⟩:∃j,p=n+1+off+j:=⟨p-(n+1+off),by omega⟩;have hj:j<cs.length:=by omega
      exact hp.agree _ (ho.wf.lt (hget j cs[j] (List.getElem?_eq_getElem hj))) (hs.T _ (by show (s.T ||| bits (n+1+off) z).testBit _=true;rw [Nat.testBit_or,Ba];simp;omega))) k1
     exact ⟨b,o',l',k2,q1,q2,fun j u hu=>(q3 j u hu).1⟩
    cases g with
    | true =>
     have h:Nd P t l (s.rds (n+1+off) z) (fun l=>K (.agg ⟨cs⟩::l))=some out:=h;refine ⟨.agg ⟨cs⟩,⟨_,h,rfl⟩,fun s2 hs w0 H x w tmps hp hF=>?_⟩;obtain ⟨b,o',l',k1,k2,k3,k4⟩:=real s2 hs w0 H x w tmps hp hF;refine ⟨.agg l'.toArray,?_,.agg k2⟩;have:=Fk (P:=P) (w:=w) (t:=ty) (p:=⟨b,o'+off,none⟩) (cs:=l') (by rw [k3];exact Kb hg hz) (fun j u hu=>by rw [Addr.add_lit];exact k4 j u hu);show Sem.run P (asAddr (tmps.getD i undef) >>= fun q=>loadVar ty q) w=_;rw [k1]
     simpa [asAddr,Instr.loadAt,Instr.sureAddr] using this
    | false =>
     have hz:some 1=some z:=hz
     cases hz
     cases cs with
     | nil=>cases h
     | cons u cs =>
      have h:Nd P t l (s.rds (n+1+off) 1) (fun l=>K (u::l))=some out:=h;refine ⟨u,⟨_,h,rfl⟩,fun s2 hs w0 H x w tmps hp hF=>?_⟩;obtain ⟨b,o',l',k1,k2,k3,k4⟩:=real s2 hs w0 H x w tmps hp hF
      cases k2 with
      | cons hv ht =>
       rename_i v' l''
       refine ⟨v',?_,hv⟩;have:=Fj (P:=P) (w:=w) (t:=ty) (p:=⟨b,o'+off,none⟩) (u:=v') (M7 hg) (by have:=k4 0 v' (by simp);simpa using this);show Sem.run P (asAddr (tmps.getD i undef) >>= fun q=>loadVar ty q) w=_;rw [k1]
       simpa [asAddr,Instr.loadAt,Instr.sureAddr] using this
   obtain ⟨v0,⟨K',h,rfl⟩,hv0⟩:=main;obtain ⟨vs,T,h1,h2,h3⟩:=ih _ _ ho1 h;refine ⟨_,T,h1,fun p hpp=>h2 p (Ah p hpp),fun s2 hs w0 H x w tmps hp hF=>?_⟩;have hs0:Stp (s.rds (n+1+off) z) s2:=(Df h2).trans hs;obtain ⟨v',g1,g2⟩:=hv0 s2 hs0 w0 H x w tmps hp hF;obtain ⟨vs',q1,q2⟩:=h3 s2 hs w0 H x w tmps (Pre.afterRd ho Ah hs0 hp) hF;refine ⟨v'::vs',?_,.cons g2 q2⟩;simp [List.mapM_cons,g1,q1]
def S3 (vs:List Value):Value:=match vs with|[v]=>v|vs=>.tuple ⟨vs⟩
theorem Sa {fn:Func} {tmps:Array Value} {vs':List Value} (h:(fn.results.toList.mapM (Ff tmps)).run P w=.ok vs' w):(results fn tmps).run P w=.ok (S3 vs') w:=by
 have e:results fn tmps=(do let vs ←fn.results.mapM (Ff tmps);pure (if h:vs.size=1 then vs[0] else .tuple vs)):=by
  unfold results
  congr 1
 have e2:fn.results=fn.results.toList.toArray:=by simp
 rw [e,e2,List.mapM_toArray];simp [h];rcases vs' with _|⟨v,_|⟨u,vs⟩⟩<;>simp [S3]
theorem Z5 {vs vs':List Value} (h:VRL x vs vs'):VR x (S3 vs) (S3 vs'):=by
 cases h with
 | nil=>exact .tuple .nil
 | cons h t =>
  cases t with
  | nil=>exact h
  | cons h2 t2=>exact .tuple (.cons h (.cons h2 t2))
theorem Ti {fn:Func} {d:Nat} {ds:List Nat} {K:Value→S→Option Out}:Pj P fn t (d::ds) K s=(match s.get d with|some (.dfr true)=>s.wrK d (some (.dfr false)) (Pj P fn t ds K)|_=>none):=rfl
theorem Xe {fn:Func} {K:Value→S→Option Out}:∀(ms:List Nat) (s:S),s.Ok→Pj P fn t ms K s=some out→∃v s1,K v s1=some out∧Stp s s1∧s1.Ok ∧
  ∀(w0:World) (H:Mem) (x:Cx) (w:World) (tmps:Array Value) (ds:List Deferred) (R:Ending→World→Prop),Pre P w0 s s1 H x w→FrmR x t tmps→A2 (MkR x) ms ds→(∀v' w',Post P w0 s s1 v H x v' w'→R (.returned v') w') →
   LeavesInM (F0 none) 0 P fn tmps R ds .returning w:=by
 intro ms
 induction ms with
 | nil =>
  intro s ho h;have h:Nd P t fn.results.toList s (fun vs s=>K (S3 vs) s)=some out:=h;obtain ⟨vs,T,h1,h2,h3⟩:=Z8 _ s _ ho h;refine ⟨_,_,h1,Df h2,F8 ho h2,fun w0 H x w tmps ds R hp hF hm hR=>?_⟩
  cases hm
  obtain ⟨vs',q1,q2⟩:=h3 _ (Stp.refl _) w0 H x w tmps hp hF;exact ⟨_,Sa q1,hR _ _ (hp.rd h2 ho (Z5 q2))⟩
 | cons d ms ih =>
  intro s ho h;rw [Ti] at h
  split at h
  ·rename_i hg
   rw [Fh] at h;obtain ⟨p1,p2⟩:=Ei (ob:=some (.dfr false)) ho (ho.wf.lt hg);obtain ⟨v,s1,h1,h2,h3,h4⟩:=ih _ p2 h;refine ⟨v,s1,h1,p1.trans h2,h3,fun w0 H x w tmps ds R hp hF hm hR=>?_⟩
   cases hm with
   | cons hd hm =>
    obtain ⟨b,b1,rfl⟩:=hd;have hH:H d=some (.dfr true):=by
     rw [←hg];exact hp.agree d (ho.wf.lt hg) (h2.T d (by show (s.T ||| 2 ^ d).testBit d=true;rw [Nat.testBit_or,Ce];simp))
    obtain ⟨b',k1,k2⟩:=hp.rel.obj _ _ hH;rw [b1] at k1
    cases k1
    obtain ⟨m1,m2⟩:=M1 (rob:=.deferred none) ho (hp.first p1 h2) hg rfl rfl b1 (fun w' hw'=>⟨_,b1,hw'⟩);refine ⟨by simp,.inl ⟨b,_,rfl,run_takeDeferred k2,?_⟩⟩;refine h4 w0 _ x _ tmps _ R (hp.next p1 h2 p2 (x.to_refl _ _) m1 m2) hF hm fun v' w' hq=>hR v' w' (hq.prev p1 h2 (x.to_refl _ _))
  ·cases h
noncomputable def ofA:List Value→Nat→Fm→Fm
 | [],_,t=>t
 | v::l,i,t=>ofA l (i+1) (Tr.s (pn i) (some v) t)
theorem Tq (K:Fm→Option Out) (l:List Value):Ul l K=K (ofA l 0 .e):=by
 have key:∀(l:List Value) (i:Nat) (t:Fm),List.rec (motive:=fun _=>Nat→Fm→Option Out) (fun _ t=>K t) (fun v _ r i t=>fN (i+1) fun i1=>sK (pn i) (some v) t (r i1)) l i t=K (ofA l i t):=by
  intro l
  induction l with
  | nil=>intro i t;rfl
  | cons v l ih =>
   intro i t;show fN (i+1) (fun i1=>sK (pn i) (some v) t (List.rec (motive:=fun _=>Nat→Fm→Option Out) (fun _ t=>K t) (fun v _ r i t=>fN (i+1) fun i1=>sK (pn i) (some v) t (r i1)) l i1))=_;rw [B9,H0];exact ih _ _
 exact key l 0 .e
theorem Qn:∀(l:List Value) (i p:Nat) (t:Fm),(p<i∨i+l.length≤p)→(ofA l i t).g (pn p)=t.g (pn p)
 | [],i,p,t,_=>rfl
 | v::l,i,p,t,h=>by
  simp only [List.length_cons] at h;unfold ofA;rw [Qn l (i+1) p _ (by omega),Di _ _ (by omega)]
theorem Xk:∀(l:List Value) (i j:Nat) (v:Value) (t:Fm),l[j]? = some v→(ofA l i t).g (pn (i+j))=some v
 | [],i,j,v,t,h=>by simp at h
 | u::l,i,0,v,t,h=>by
  simp at h;subst h;unfold ofA;rw [Qn l (i+1) (i+0) _ (by omega)];exact Fy _ _ _
 | u::l,i,j+1,v,t,h=>by
  unfold ofA;rw [show i+(j+1)=i+1+j by omega];exact Xk l (i+1) j v _ (by simpa using h)
theorem Wo {args args':List Value} (h:VRL x args args') (n:Nat):FrmR x (ofA args 0 .e) (args'.toArray++Array.replicate n undef):=by
 intro i;have hg:∀p,(Tr.e:Fm).g p=none:=fun p=>rfl
 by_cases hi:i<args.length
 ·have h1:=Xk args 0 i args[i] .e (List.getElem?_eq_getElem hi);rw [Nat.zero_add] at h1;rw [h1];obtain ⟨v',h2,h3⟩:=h.get (List.getElem?_eq_getElem hi);have hlen:=h.len;have h4:(args'.toArray++Array.replicate n undef).getD i undef=v':=by
   rw [Array.getD_eq_getD_getElem?,Array.getElem?_append_left (by simp;omega)];simp [h2]
  rw [h4];exact h3
 ·rw [Qn _ _ _ _ (.inr (by omega)),hg];have hlen:=h.len;have h4:(args'.toArray++Array.replicate n undef).getD i undef=undef:=by
   rw [Array.getD_eq_getD_getElem?,Array.getElem?_append_right (by simp;omega)];rw [Array.getElem?_replicate]
   split<;>rfl
  rw [h4];exact .undef
theorem A1j {run:Rn} (hc:K6 P run) {fn:Func} {f:FuncId} {args:List Value} (ho:s.Ok) (hf:P.funcs[f]? = some fn) (h:jFn P run s fn args=some (.val v s')) :
  Stp s s'∧s'.Ok∧((∀c,fn.body=some c→Bk fn.ntmps c=true)→∀(w0:World) (H:Mem) (x:Cx) (w:World) (args':List Value),Pre P w0 s s' H x w→VRL x args args'→Calls P f args'.toArray w (fun e w'=>∃v',e=.returned v'∧Post P w0 s s' v H x v' w')):=by
 unfold jFn at h;obtain ⟨hn,h⟩:=Bc h;have hn:=Nat.le_of_ble_eq_true hn;obtain ⟨c,hb,h⟩:=Au h;rw [Tq] at h;have ho0:S.Ok ⟨s.h,s.c,0,0,s.m⟩:=⟨ho.wf,fun p hp=>by simp at hp⟩;have body:∃t1 ms1 s1 e1,((e1=true∧run (.code c (ofA args 0 .e) [] none) ⟨s.h,s.c,0,0,s.m⟩=some (.norm t1 ms1 s1))∨(e1=false∧run (.code c (ofA args 0 .e) [] none) ⟨s.h,s.c,0,0,s.m⟩=some (.ret t1 ms1 s1)))∧Pj P fn t1 ms1 (Y6 s args) s1=some (.val v s'):=by
  rcases Fo h with ⟨t1,ms1,s1,h1,h2⟩|⟨_,_,_,_,_,h2⟩|⟨t1,ms1,s1,h1,h2⟩
  ·exact ⟨t1,ms1,s1,true,.inl ⟨rfl,h1⟩,h2⟩
  ·cases h2
  ·exact ⟨t1,ms1,s1,false,.inr ⟨rfl,h1⟩,h2⟩
 clear h
 obtain ⟨t1,ms1,s1,e1,h1,h2⟩:=body;have code:Stp ⟨s.h,s.c,0,0,s.m⟩ s1∧s1.Ok∧(Bk fn.ntmps c=true→∀(w0:World) (H:Mem) (x:Cx) (w:World) (a:Act),Pre P w0 ⟨s.h,s.c,0,0,s.m⟩ s1 H x w→FrR x fn.ntmps (ofA args 0 .e) [] a →
   WP P none c (fun e a w=>(e=.normal∨e=.ret)∧At P w0 ⟨s.h,s.c,0,0,s.m⟩ s1 H x fn.ntmps t1 ms1 a w) a w):=by
  rcases h1 with ⟨rfl,h1⟩|⟨rfl,h1⟩
  ·obtain ⟨p1,p2,m,p3⟩:=hc _ _ _ _ _ _ ho0 h1;refine ⟨p1,p2,fun hco w0 H x w a hp hF=>wpIn_mono (p3 _ hco w0 H x w a none (fun _=>rfl) hp hF).wp ?_⟩;intro e a w hq
   cases e<;>first|exact hq.elim|exact ⟨.inl rfl,hq⟩
  ·obtain ⟨p1,p2,m,p3⟩:=hc _ _ _ _ _ _ ho0 h1;refine ⟨p1,p2,fun hco w0 H x w a hp hF=>wpIn_mono (p3 _ hco w0 H x w a none (fun _=>rfl) hp hF).wp ?_⟩;intro e a w hq
   cases e<;>first|exact hq.elim|exact ⟨.inr rfl,hq⟩
 obtain ⟨c1,c2,c3⟩:=code;obtain ⟨v1,s2,g1,g2,g3,g4⟩:=Xe ms1 s1 c2 h2;have hs2:=c1.trans g2;have core:∀c',fn.body=some c'→Bk fn.ntmps c'=true→∀(w0:World) (H:Mem) (x:Cx) (w:World) (args':List Value),Pre P w0 ⟨s.h,s.c,0,0,s.m⟩ s2 H x w→VRL x args args' →
   Calls P f args'.toArray w (fun e w'=>∃v',e=.returned v'∧Post P w0 ⟨s.h,s.c,0,0,s.m⟩ s2 v1 H x v' w'):=by
  intro c' hc' hco w0 H x w args' hp0 hv;rw [hb] at hc'
  cases hc'
  refine E3 (r:=none) (n:=0) |>.1 (callsIn_of_wp_marks hf hb trivial ?_ rfl);have hlen:=hv.len;have hFr:FrR x fn.ntmps (ofA args 0 .e) [] { tmps:=args'.toArray++Array.replicate (fn.ntmps-args'.toArray.size) undef,defers:=[] }:=⟨Wo hv _,by simp;omega,.nil⟩;refine wpIn_mono (c3 hco w0 H x w _ (hp0.first c1 g2) hFr) ?_;rintro e a w1 ⟨he,y,y1,y2,y3,y4⟩;have fin:LeavesInM (F0 none) 0 P fn a.tmps (fun e w'=>∃v',e=.returned v'∧Post P w0 ⟨s.h,s.c,0,0,s.m⟩ s2 v1 H x v' w') a.defers .returning w1:=by
   refine g4 w0 _ y w1 a.tmps a.defers _ (hp0.next c1 g2 c2 y1 y2 y3) y4.frm y4.marks fun v' w' hq=>⟨v',rfl,hq.prev c1 g2 y1⟩
  rcases he with rfl|rfl
  ·exact fin
  ·exact fin
 rcases Wa g1 with q|⟨q1,q2,⟨c',q3,q⟩|⟨q,q4,q5⟩⟩
 ·cases q
  obtain ⟨k1,k2,k3⟩:=W3 (P:=P) ho hs2 g3;refine ⟨k1,k2,fun hco w0 H x w args' hp hv=>Calls.mono (core c hb (hco c hb) w0 H x w args' (k3 hp).1 hv) ?_⟩;rintro e w' ⟨v',rfl,hq⟩;exact ⟨v',rfl,(k3 hp).2 hq⟩
 ·cases q
  obtain ⟨k1,k2,k3⟩:=W4 (P:=P) (v:=v) ho hs2 g3 q1 q2 q3;refine ⟨k1,k2,fun hco w0 H x w args' hp hv=>Calls.mono (core c hb (hco c hb) w0 H x w args' (k3 hp).1 hv) ?_⟩;rintro e w' ⟨v',rfl,hq⟩;exact ⟨v',rfl,(k3 hp).2 hq⟩
 ·cases q
  refine ⟨Stp.refl s,ho,fun hco w0 H x w args' hp hv=>?_⟩;have e1:=VRL.gnd_eq hv 6 q5;subst e1;have hTn:∀p,p<s.c→s2.T.testBit p=true→False:=fun p hpc e=>by
   have h0:=Nat.eq_of_beq_eq_true q4;have:=Qg (T:=s2.T) (c:=s.c) (p:=p);rw [h0,Nat.zero_testBit,e] at this;simp [hpc] at this
  have hargs:VRL (⟨fun _=>none,fun _=>none,fun _=>0⟩:Cx) args' args':=by
   have:∀l:List Value,l.all (gnd 6)=true→VRL (⟨fun _=>none,fun _=>none,fun _=>0⟩:Cx) l l:=by
    intro l
    induction l with
    | nil=>intro _;exact .nil
    | cons u l ih =>
     intro hl;rw [List.all_cons,Bool.and_eq_true] at hl;exact .cons (Ct 6 u hl.1) (ih hl.2)
   exact this _ q5
  refine Calls.mono (core c hb (hco c hb) w (fun _=>none) _ w args' ⟨fun p h1 h2=>(hTn p h1 h2).elim,fun p _ _=>⟨rfl,rfl⟩,⟨fun p o hp=>by simp at hp,fun p q o o' a a' hp=>by simp at hp,fun p o a hp=>by simp at hp⟩,Ext.refl w,fun _ p _=>rfl⟩ hargs) ?_;rintro e w' ⟨v',rfl,y,y1,y2,y3,y4⟩;have hveq:=y2.gnd_eq 6 q2;subst hveq;refine ⟨v',rfl,x,x.to_refl _ _,Ct 6 v' q2,?_,hp.ext.trans y4⟩;rw [E6 ho fun p hpp=>(hp.W ho (Stp.refl s) p hpp).1];exact Rel.keep (fun b ob hb=>y4.block hb) hp.rel
def RowRet (P:Program) (e:TypeId) (cs:List Value) (l:Nat) (v:Value) (w:World) (r:Ending) (w':World):Prop :=
 ∃b o c z n,r=.returned (.tuple #[.slice (some ⟨b,o,none⟩) l c,v])∧Ext w w'∧w.heap.size≤b∧RowAt w' b e n∧szT P e=some z∧o+c*z≤n∧l≤c∧o+cs.length≤n∧∀j u,cs[j]? = some u→w'.cell? ⟨b,o+j,none⟩=some u
structure TblOk (P:Program) (tbl:FuncId→List Value→Option Tv):Prop where
 ent:∀f args v,tbl f args=some v→∀args w,(callFunc f args).run P w=.ok (.enter f args) w
 gnd:∀f args v,tbl f args=some v→args.all (gnd 6)=true
 call:∀f args v,tbl f args=some (.pl v)→∀w,Calls P f args.toArray w (fun e w'=>e=.returned v∧Ext w w')
 row:∀f args e cs l v,tbl f args=some (.ro e cs l v)→∀w,Calls P f args.toArray w (RowRet P e cs l v w)
theorem Lt:∀l:List Value,l.all (gnd 6)=true→VRL x l l
 | [],_=>.nil
 | u::l,h=>by
  rw [List.all_cons,Bool.and_eq_true] at h;exact .cons (Ct 6 u h.1) (Lt l h.2)
theorem Vi {f:FuncId} (h:Yp P f=true):∃fn,P.funcs[f]? = some fn∧(fn.name == "runtime.NumGoroutine")=false∧∃c,fn.body=some c∧Bk fn.ntmps c=true:=by
 unfold Yp at h
 split at h
 ·rename_i fn hf
  rw [Bool.and_eq_true] at h;rw [Array.getElem?_toList] at hf;refine ⟨fn,hf,by simpa using h.1,?_⟩;have h2:=h.2
  split at h2
  ·rename_i c hc;exact ⟨c,hc,h2⟩
  ·cases h2
 ·cases h
theorem Vc {f:FuncId} {fn:Func} (hf:P.funcs[f]? = some fn) (hn:(fn.name == "runtime.NumGoroutine")=false) {c:Code} (hb:fn.body=some c) (args:Array Value) (w:World):(callFunc f args).run P w=.ok (.enter f args) w:=by
 simp only [beq_eq_false_iff_ne,ne_eq] at hn;simp [callFunc,hf,hn,hb]
theorem Sy {okm:Nat} (h:L7 P okm=true) {f:FuncId} (hb:okm.testBit f=true) {fn:Func} (hf:P.funcs.toList[f]? = some fn):Yp P f=true:=by
 unfold L7 at h;rw [List.all_eq_true] at h;have:=h f (List.mem_range.2 (List.getElem?_eq_some_iff.1 hf).1);rw [hb] at this
 simpa using this
theorem U6 {okm:Nat} {tbl:FuncId→List Value→Option Tv} (hall:L7 P okm=true) (htbl:TblOk P tbl) {run:Rn} (hc:K6 P run) {f:FuncId} {args:List Value} (h:Rr P run s okm tbl f args=some (.val v s')) :
  (∀args w,(callFunc f args).run P w=.ok (.enter f args) w)∧(s.Ok→Stp s s'∧s'.Ok∧∀(w0:World) (H:Mem) (x:Cx) (w:World) (args':List Value),Pre P w0 s s' H x w→VRL x args args'→Calls P f args'.toArray w (fun e w'=>∃v',e=.returned v'∧Post P w0 s s' v H x v' w')):=by
 unfold Rr at h
 cases ht:tbl f args with
 | some tv =>
  rw [ht] at h
  cases tv with
  | pl v0 =>
   have h:oB (gnd 6 v0) (some (Out.val v0 s))=some (.val v s'):=h;obtain ⟨hg,h⟩:=Bc h
   cases h
   refine ⟨htbl.ent f args _ ht,fun ho=>⟨Stp.refl s,ho,fun w0 H x w args' hp hv=>?_⟩⟩;have e1:=VRL.gnd_eq hv 6 (htbl.gnd f args _ ht);subst e1;refine Calls.mono (htbl.call f args' _ ht w) ?_;rintro e w' ⟨rfl,hx⟩;refine ⟨_,rfl,x,x.to_refl _ _,Ct 6 _ hg,?_,hp.ext.trans hx⟩;rw [E6 ho fun p hpp=>(hp.W ho (Stp.refl s) p hpp).1];exact Rel.keep (fun b ob hb=>hx.block hb) hp.rel
  | ro e cs l v0 =>
   have h:oB (gnd 6 v0&&cs.all (gnd 6)) (s.rowK cs e true fun s1=>some (Out.val (.tuple #[.slice (some ⟨s.c,0,none⟩) l l,v0]) s1))=some (.val v s'):=h;obtain ⟨hg,h⟩:=Bc h;rw [Bool.and_eq_true] at hg;rw [Fa] at h
   cases h
   refine ⟨htbl.ent f args _ ht,fun ho=>⟨(Dc ho).1,(Dc ho).2,fun w0 H x w args' hp hv=>?_⟩⟩;have e1:=VRL.gnd_eq hv 6 (htbl.gnd f args _ ht);subst e1;refine Calls.mono (htbl.row f args' e cs l v0 ht w) ?_;rintro r w' ⟨b,o,c,z,n,rfl,hx,hb,hrow,hz,hcz,hlc,hlen,hcells⟩;have hlt:s.c<(s.row cs e true).c:=by show s.c<s.c+1+cs.length;omega
   obtain ⟨f1,f2⟩:=hp.fresh s.c (Nat.le_refl _) (.inl hlt);refine ⟨_,rfl,x.add s.c ⟨b,o,none⟩ (some (z,o+c*z)) cs.length,Cx.add_to f1 f2 hlt,?_,?_,hp.ext.trans hx⟩
   ·refine .tuple (.cons (.sl (b:=b) (o:=o) (by simp [Cx.add]) (.inl rfl) (.inr ⟨z,o+c*z,by simp [Cx.add],hlc,rfl⟩)) (.cons (Ct 6 _ hg.1) .nil))
   ·refine Jy (vs':=cs) (m:=n) (hp.rel.keep (fun b ob hb=>hx.block hb)) ho.wf (hp.W ho (Dc ho).1) f1 f2 (fun p ob a h1 h2=>?_) (Nat.le_trans hp.ext.size hb) hrow hlen hcells (Lt _ hg.2) (fun q=>by cases q) (fun sz en q=>?_)
    ·have:=Jp hp.rel h1 h2;omega
    ·cases q;exact ⟨hcz,hz⟩
 | none =>
  rw [ht] at h;have h:jDo P run s okm f args=some (.val v s'):=h;unfold jDo at h;obtain ⟨hb,h⟩:=Bc h;obtain ⟨fn,hf,h⟩:=Au h;obtain ⟨fn',hf',hn,c,hbody,hco⟩:=Vi (Sy hall hb hf);rw [Array.getElem?_toList] at hf;rw [hf] at hf'
  cases hf'
  refine ⟨Vc hf hn hbody,fun ho=>?_⟩;obtain ⟨k1,k2,k3⟩:=A1j hc ho hf h;exact ⟨k1,k2,k3 fun c' hc'=>by rw [hbody] at hc';cases hc';exact hco⟩
theorem Yl {run:Rn} (hmo:P.follows .mixedOrders=true) (hr:RunOk P run) (hc:K6 P run) {c:Code} {r:Option Nat} (ho:s.Ok) (h:Xd P run s t ms r c=some out) :
  Stp s out.st∧out.st.Ok∧∃m,∀N,Bk N c=true→∀(w0:World) (H:Mem) (x:Cx) (w:World) (a:Act) (r':Option Nat),(r=none→r'=none)→Pre P w0 s out.st H x w→FrR x N t ms a→WPx P m r' c (CQ P w0 s H x N out) a w:=by
 cases c with
 | skip =>
  have h:some (Out.norm t ms s)=some out:=h
  cases h
  exact ⟨Stp.refl s,ho,0,fun N _ w0 H x w a r' _ hp hF=>wpIn_skip (hp.at0 ho hF)⟩
 | region id ops draw =>
  have h:Qf P run s t ms ops draw=some out:=h;unfold Qf at h
  cases draw with
  | false =>
   obtain ⟨t',s',e1,k1,k2,k3⟩:=X0 hr ops.toList 0 (fun j=>by simp) (by simp) t s out ho h;subst e1;refine ⟨k1,k2,0,fun N hco w0 H x w a r' _ hp hF=>?_⟩;have hd:Al ops N=true:=by unfold Bk at hco;rw [Bool.and_eq_true] at hco;exact hco.1
   exact WI.region (k3 N hd w0 H x w a r' _ hp hF fun y a' w' y1 y2 y3 y4=>⟨y,y1,y2,y3,y4⟩)
  | true =>
   obtain ⟨t',s',e1,k1,k2,k3⟩:=Ww hr hmo ho h;subst e1;refine ⟨k1,k2,0,fun N hco w0 H x w a r' _ hp hF=>?_⟩;unfold Bk at hco;simp only [Bool.not_true,Bool.false_or,Bool.and_eq_true] at hco;exact k3 N hco.1 hco.2.1 hco.2.2 w0 H x w a r' id _ hp hF fun y a' w' y1 y2 y3 y4=>⟨y,y1,y2,y3,y4⟩
 | seq b c =>
  obtain ⟨k1,k2,m,k3⟩:=Y5 hc ho (show Vl run s t ms r b c=some out from h);refine ⟨k1,k2,m,fun N hco w0 H x w a r' hr' hp hF=>?_⟩;unfold Bk at hco;rw [Bool.and_eq_true] at hco;refine wpIn_seq (wpIn_mono (k3 N hco.1 hco.2 w0 H x w a r' hr' hp hF) ?_);intro e a w hq
  cases e<;>first|exact WPx.wp hq|exact hq
 | cond q b c =>
  have h:t.K (od q) (fun c'=>vB c' fun c'=>Bool.casesOn c' (run (.code c t ms r) s) (run (.code b t ms r) s))=some out:=h;rw [Aj] at h;obtain ⟨bv,e1,h⟩:=Qy h;have hcv:∀N,Bk N (.cond q b c)=true→∀(x:Cx) (a:Act),FrR x N t ms a→a.eval q=.bool bv:=by
   intro N hco x a hF;unfold Bk at hco;rw [Bool.and_eq_true] at hco;have:=Ms hF.frm hco.1;rw [e1] at this;exact this.boolI
  cases bv with
  | true =>
   obtain ⟨k1,k2,m,k3⟩:=hc b t ms r s out ho h;refine ⟨k1,k2,m,fun N hco w0 H x w a r' hr' hp hF=>wpIn_cond_true (hcv N hco x a hF) ?_⟩;unfold Bk at hco;rw [Bool.and_eq_true,Bool.and_eq_true] at hco;exact (k3 N hco.2.1 w0 H x w a r' hr' hp hF).wp
  | false =>
   obtain ⟨k1,k2,m,k3⟩:=hc c t ms r s out ho h;refine ⟨k1,k2,m,fun N hco w0 H x w a r' hr' hp hF=>wpIn_cond_false (hcv N hco x a hF) ?_⟩;unfold Bk at hco;rw [Bool.and_eq_true,Bool.and_eq_true] at hco;exact (k3 N hco.2.2 w0 H x w a r' hr' hp hF).wp
 | block id b =>
  have h:Tg run s t ms r id b=some out:=h;unfold Tg at h;rcases Fo h with ⟨t1,ms1,s1,h1,h2⟩|⟨id',t1,ms1,s1,h1,h2⟩|⟨t1,ms1,s1,h1,h2⟩
  ·cases h2
   obtain ⟨k1,k2,m,k3⟩:=hc b t ms r s _ ho h1;refine ⟨k1,k2,m,fun N hco w0 H x w a r' hr' hp hF=>wpIn_block (wpIn_mono (k3 N hco w0 H x w a r' hr' hp hF).wp ?_)⟩;intro e a w hq
   cases e<;>first|exact hq.elim|exact hq
  ·obtain ⟨k1,k2,m,k3⟩:=hc b t ms r s _ ho h1
   cases hid:Nat.beq id' id with
   | true =>
    rw [hid] at h2
    cases h2
    have hid:=Nat.eq_of_beq_eq_true hid;subst hid;refine ⟨k1,k2,m,fun N hco w0 H x w a r' hr' hp hF=>wpIn_block (wpIn_mono (k3 N hco w0 H x w a r' hr' hp hF).wp ?_)⟩;intro e a w hq
    cases e<;>first|exact hq.elim|skip
    obtain ⟨rfl,hq⟩:=hq;show Exit.inBlock _ _ (.exit _) a w;simp only [Exit.inBlock,if_true];exact hq
   | false =>
    rw [hid] at h2
    cases h2
    have hne:id'≠id:=fun e=>by rw [e,Nat.beq_refl] at hid;cases hid
    refine ⟨k1,k2,m,fun N hco w0 H x w a r' hr' hp hF=>wpIn_block (wpIn_mono (k3 N hco w0 H x w a r' hr' hp hF).wp ?_)⟩;intro e a w hq
    cases e<;>first|exact hq.elim|skip
    obtain ⟨rfl,hq⟩:=hq;show Exit.inBlock _ _ (.exit _) a w;simp only [Exit.inBlock,hne,if_false];exact ⟨rfl,hq⟩
  ·cases h2
   obtain ⟨k1,k2,m,k3⟩:=hc b t ms r s _ ho h1;refine ⟨k1,k2,m,fun N hco w0 H x w a r' hr' hp hF=>wpIn_block (wpIn_mono (k3 N hco w0 H x w a r' hr' hp hF).wp ?_)⟩;intro e a w hq
   cases e<;>first|exact hq.elim|exact hq
 | loop b =>
  obtain ⟨k1,k2,m,k3⟩:=Y5 hc ho (show Vl run s t ms r b (.loop b)=some out from h);refine ⟨k1,k2,m+1,fun N hco w0 H x w a r' hr' hp hF=>?_⟩;exact k3 N hco hco w0 H x w a r' hr' hp hF
 | rangeFunc f ps asg body =>
  obtain ⟨k1,k2,k3⟩:=Y2 hr ho (show Qe run s t ms r f ps asg body=some out from h);exact ⟨k1,k2,0,fun N hco w0 H x w a r' hr' hp hF=>k3 N hco w0 H x w a r' hr' hp hF⟩
 | exit id =>
  have h:some (Out.exit id t ms s)=some out:=h
  cases h
  exact ⟨Stp.refl s,ho,0,fun N _ w0 H x w a r' _ hp hF=>wpIn_exit ⟨rfl,hp.at0 ho hF⟩⟩
 | scope b=>cases h
 | label l=>cases h
 | goto l=>cases h
 | ret =>
  have h:some (Out.ret t ms s)=some out:=h
  cases h
  exact ⟨Stp.refl s,ho,0,fun N _ w0 H x w a r' _ hp hF=>wpIn_ret (hp.at0 ho hF)⟩
 | refuse w=>cases h
theorem X1 {okm:Nat} {tbl:FuncId→List Value→Option Tv} (hmo:P.follows .mixedOrders=true) (hall:L7 P okm=true) (htbl:TblOk P tbl):∀n,RunOk P (ev P okm tbl n)∧K6 P (ev P okm tbl n):=by
 intro n
 induction n with
 | zero =>
  refine ⟨⟨fun f args s v s' h=>?_,fun f args s v s' ho h=>?_,fun l args s v s' ho h=>?_⟩,fun c t ms r s out ho h=>?_⟩<;>cases h
 | succ n ih =>
  obtain ⟨hr,hc⟩:=ih;refine ⟨⟨fun f args s v s' h=>?_,fun f args s v s' ho h=>?_,fun l args s v s' ho h=>?_⟩,fun c t ms r s out ho h=>?_⟩
  ·exact (U6 hall htbl hc (show Rr P (ev P okm tbl n) s okm tbl f args=some (.val v s') from h)).1
  ·exact (U6 hall htbl hc (show Rr P (ev P okm tbl n) s okm tbl f args=some (.val v s') from h)).2 ho
  ·exact A18 hc ho (show Yv (ev P okm tbl n) s l args=some (.val v s') from h)
  ·exact Yl hmo hr hc ho (show Xd P (ev P okm tbl n) s t ms r c=some out from h)
theorem Sn:start.Ok:=⟨fun p _=>rfl,fun p hp=>by simp [start] at hp⟩
theorem Pu {s':S} (w:World):Pre P w start s' (fun _=>none) ⟨fun _=>none,fun _=>none,fun _=>0⟩ w :=
 ⟨fun p hp _=>by simp [start] at hp,fun p _ _=>⟨rfl,rfl⟩,⟨fun p o hp=>by simp at hp,fun p q o o' a a' hp=>by simp at hp,fun p o a hp=>by simp at hp⟩,Ext.refl w,fun _ p _=>rfl⟩
theorem Nn {s':S} (ho:s'.Ok) (H:Mem) {p:Nat} {ob:AObj} (h:s'.get p=some ob):Over start s' H p=some ob:=by
 unfold Over;rw [if_pos (.inl ⟨Nat.zero_le _,ho.wf.lt h⟩),h]
theorem Q4 {okm:Nat} {tbl:FuncId→List Value→Option Tv} (hmo:P.follows .mixedOrders=true) (hall:L7 P okm=true) (htbl:TblOk P tbl) {n:Nat} {f:FuncId} {args:List Value} {v:Value} (ha:args.all (gnd 6)=true) (hg:gnd 6 v=true) (h:okv (ev P okm tbl n (.call f args) start)=some v) (w:World) :
  Calls P f args.toArray w (fun e w'=>e=.returned v∧Ext w w'):=by
 unfold okv at h
 split at h
 ·rename_i v0 s' hev
  cases h
  obtain ⟨k1,k2,k3⟩:=(X1 hmo hall htbl n).1.call f args start v s' Sn hev;refine Calls.mono (k3 w _ _ w args (Pu w) (Lt _ ha)) ?_;rintro e w' ⟨v',rfl,y,y1,y2,y3,y4⟩;rw [y2.gnd_eq 6 hg];exact ⟨rfl,y4⟩
 ·cases h
theorem T4 {okm:Nat} {tbl:FuncId→List Value→Option Tv} (hmo:P.follows .mixedOrders=true) (hall:L7 P okm=true) (htbl:TblOk P tbl) {n:Nat} {f:FuncId} {args:List Value} {e:TypeId} {cs:List Value} {l:Nat} {v:Value} (ha:args.all (gnd 6)=true)
  (h:okr P (ev P okm tbl n (.call f args) start)=some (e,cs,l,v)) (w:World):Calls P f args.toArray w (RowRet P e cs l v w):=by
 unfold okr at h
 split at h
 ·rename_i nm off l0 c v0 s' hev
  split at h
  ·rename_i k e0 g hhd
   split at h
   ·rename_i z hz
    split at h
    ·rename_i cs0 hl
     rw [Bool.cond_eq_ite] at h
     split at h
     ·rename_i hb
      cases h
      rw [Bool.and_eq_true,Bool.and_eq_true,Bool.and_eq_true,Bool.and_eq_true] at hb;obtain ⟨⟨b1,b2⟩,b3,b4,b5⟩:=hb;have b1:0<l:=Nat.le_of_ble_eq_true b1;have b2:=Nat.le_of_ble_eq_true b2;have b3:=Nat.le_of_ble_eq_true b3;obtain ⟨k1,k2,k3⟩:=(X1 hmo hall htbl n).1.call f args start _ s' Sn hev;refine Calls.mono (k3 w _ _ w args (Pu w) (Lt _ ha)) ?_;rintro r w' ⟨v',rfl,y,y1,y2,y3,y4⟩;have hH:=Nn k2 (fun _=>none) hhd;obtain ⟨b,o,N,q1,q2,⟨q3,q4⟩,q5,q6⟩:=y3.obj _ _ hH;have hlow:=y3.low _ _ _ hH q1;obtain ⟨hlen,hget⟩:=Bo hl;obtain ⟨l',r1,r2,r3⟩:=D0 y3 hl (fun p hp1 hp2=>by
       obtain ⟨j,rfl⟩:∃j,p=nm+1+off+j:=⟨p-(nm+1+off),by omega⟩;have:=hget j cs[j] (List.getElem?_eq_getElem (by omega));rw [Nn k2 _ this];exact this.symm) q1
      have e1:=VRL.gnd_eq r1 6 b5;subst e1
      cases y2 with
      | tuple h2 =>
       rename_i p'
       obtain ⟨p'⟩:=p'
       cases h2 with
       | cons hs h2 =>
        cases h2 with
        | cons hx h2 =>
         cases h2
         have e2:=hx.gnd_eq 6 b4;subst e2
         cases hs with
         | sl hr ho hc =>
          rename_i bb oo o' c'
          rw [q1] at hr
          cases hr
          have ho:o'=o+off:=by
           rcases ho with ho|ho
           ·exact ho
           ·omega
          subst ho;refine ⟨_,_,_,z,N,rfl,y4,hlow,q2,hz,?_,?_,?_,fun j u hj=>(r3 j u hj).1⟩
          ·rcases hc with rfl|⟨sz,en,g1,g2,g3⟩
           ·omega
           ·obtain ⟨g4,g5⟩:=q6 _ _ g1;rw [hz] at g5
            cases g5
            omega
          ·rcases hc with rfl|⟨sz,en,g1,g2,g3⟩<;>omega
          ·have:l*z≤c*z:=Nat.mul_le_mul_right z b2;omega
     ·cases h
    ·cases h
   ·cases h
  ·cases h
 ·cases h
end
end Go.Ev
namespace Go.Ev
open Go Go.Eng
set_option linter.unusedVariables false
def vql (f:Value→Value→Bool):List Value→List Value→Bool
 | [],[]=>true
 | a::l,b::m=>f a b&&vql f l m
 | _,_=>false
def vq:Nat→Value→Value→Bool
 | 0,_,_=>false
 | n+1,a,b=>match a,b with
  | .int k a,.int k' b=>ikE k k'&&eqZ a b
  | .bool a,.bool b=>bif a then b else !b
  | .agg a,.agg b=>vql (vq n) a.toList b.toList
  | .tuple a,.tuple b=>vql (vq n) a.toList b.toList
  | .slice none 0 0,.slice none 0 0=>true
  | .pointer none,.pointer none=>true
  | .nilIface,.nilIface=>true
  | .nilFunc,.nilFunc=>true
  | .map none,.map none=>true
  | _,_=>false
theorem Nv {f:Value→Value→Bool} (hf:∀a b,f a b=true→a=b):∀l m,vql f l m=true→l=m
 | [],[],_=>rfl
 | a::l,b::m,h=>by
  unfold vql at h;rw [Bool.and_eq_true] at h;rw [hf a b h.1,Nv hf l m h.2]
 | [],_::_,h=>by cases h
 | _::_,[],h=>by cases h
theorem Yu {a b:IntKind} (h:ikE a b=true):a=b:=by
 have:=Nat.eq_of_beq_eq_true h
 cases a<;>cases b<;>first|rfl|cases this
theorem Yn {a b:Int} (h:eqZ a b=true):a=b:=by
 cases a<;>cases b<;>first|cases h|skip
 ·exact congrArg _ (Nat.eq_of_beq_eq_true h)
 ·exact congrArg _ (Nat.eq_of_beq_eq_true h)
theorem Uz:∀n a b,vq n a b=true→a=b:=by
 intro n
 induction n with
 | zero=>intro a b h;cases h
 | succ n ih =>
  intro a b h;unfold vq at h
  split at h
  ·rw [Bool.and_eq_true] at h;rw [Yu h.1,Yn h.2]
  ·rename_i a b
   cases a<;>cases b<;>first|rfl|cases h
  ·rename_i a b
   have:=Nv ih _ _ h;rw [Array.toList_inj.1 this]
  ·rename_i a b
   have:=Nv ih _ _ h;rw [Array.toList_inj.1 this]
  all_goals first|rfl|cases h
structure Ent where
 f:FuncId
 args:List Value
 res:Tv
def H3:List Ent→FuncId→List Value→Option Tv
 | [],_,_=>none
 | x::l,f,a=>bif Nat.beq x.f f&&vql (vq 6) x.args a then some x.res else H3 l f a
structure EntOk (P:Program) (x:Ent):Prop where
 ent:∀args w,(callFunc x.f args).run P w=.ok (.enter x.f args) w
 gnd:x.args.all (gnd 6)=true
 call:∀v,x.res=.pl v→∀w,Calls P x.f x.args.toArray w (fun e w'=>e=.returned v∧Ext w w')
 row:∀e cs l v,x.res=.ro e cs l v→∀w,Calls P x.f x.args.toArray w (RowRet P e cs l v w)
variable {P:Program}
theorem F4:∀{l:List Ent} {f:FuncId} {a:List Value} {tv:Tv},H3 l f a=some tv→∃x∈l,x.f=f∧x.args=a∧x.res=tv
 | [],f,a,tv,h=>by cases h
 | x::l,f,a,tv,h=>by
  unfold H3 at h;rw [Bool.cond_eq_ite] at h
  split at h
  ·rename_i hb
   rw [Bool.and_eq_true] at hb
   cases h
   exact ⟨x,by simp,Nat.eq_of_beq_eq_true hb.1,Nv (Uz 6) _ _ hb.2,rfl⟩
  ·obtain ⟨y,h1,h2⟩:=F4 h;exact ⟨y,by simp [h1],h2⟩
theorem Yb {l:List Ent} (h:∀x∈l,EntOk P x):TblOk P (H3 l):=by
 constructor
 ·intro f args v hv;obtain ⟨x,h1,rfl,rfl,rfl⟩:=F4 hv;exact (h x h1).ent
 ·intro f args v hv;obtain ⟨x,h1,rfl,rfl,rfl⟩:=F4 hv;exact (h x h1).gnd
 ·intro f args v hv;obtain ⟨x,h1,rfl,rfl,h2⟩:=F4 hv;exact (h x h1).call v h2
 ·intro f args e cs l v hv;obtain ⟨x,h1,rfl,rfl,h2⟩:=F4 hv;exact (h x h1).row e cs l v h2
noncomputable def Mh (P:Program) (tv:Tv) (o:Option Out):Bool :=
 match tv with
 | .pl v=>(match okv o with|some v'=>vq 6 v v'&&gnd 6 v'|none=>false)
 | .ro e cs l x=>(match okr P o with|some (e',cs',l',x')=>(Nat.beq e e'&&Nat.beq l l')&&(vq 6 x x'&&vql (vq 6) cs cs')|none=>false)
theorem Mi {okm:Nat} {l:List Ent} {x:Ent} (hmo:P.follows .mixedOrders=true) (hall:L7 P okm=true) (hl:∀x∈l,EntOk P x) (ha:x.args.all (gnd 6)=true) {n:Nat}
  (h:Mh P x.res (ev P okm (H3 l) n (.call x.f x.args) start)=true):EntOk P x:=by
 have htbl:=Yb hl;have hent:∀v s,ev P okm (H3 l) n (.call x.f x.args) start=some (.val v s)→∀args w,(callFunc x.f args).run P w=.ok (.enter x.f args) w:=fun v s e=>(X1 hmo hall htbl n).1.ent x.f x.args start v s e;unfold Mh at h
 cases hx:x.res with
 | pl v =>
  rw [hx] at h;simp only at h
  split at h
  ·rename_i v' hv
   rw [Bool.and_eq_true] at h;have e:=Uz 6 _ _ h.1;subst e;have hv0:=hv;unfold okv at hv
   split at hv
   ·rename_i v1 s1 hev
    refine ⟨hent _ _ hev,ha,fun u hu w=>?_,fun e cs l u hu=>by rw [hx] at hu;cases hu⟩
    rw [hx] at hu
    cases hu
    exact Q4 hmo hall htbl ha h.2 hv0 w
   ·cases hv
  ·cases h
 | ro e cs l v =>
  rw [hx] at h;simp only at h
  split at h
  ·rename_i e' cs' l' v' hv
   rw [Bool.and_eq_true,Bool.and_eq_true,Bool.and_eq_true] at h;obtain ⟨⟨h1,h2⟩,h3,h4⟩:=h;have h1:=Nat.eq_of_beq_eq_true h1;have h2:=Nat.eq_of_beq_eq_true h2;have h3:=Uz 6 _ _ h3;have h4:=Nv (Uz 6) _ _ h4;subst h1 h2 h3 h4;have hv0:=hv;unfold okr at hv
   split at hv
   ·rename_i hev
    refine ⟨hent _ _ hev,ha,fun u hu=>(by rw [hx] at hu;cases hu),fun e cs l u hu w=>?_⟩
    rw [hx] at hu
    cases hu
    exact T4 hmo hall htbl ha hv0 w
   ·cases hv
  ·cases h
end Go.Ev
