import Derived.Test.YtfkeddejdahnhaaGreatDoorQ3EA
import Derived.RangeFuncRecord
import Derived.RangeFuncLeaves
set_option linter.unusedVariables false
set_option linter.unusedSimpArgs false
set_option linter.unusedSectionVars false
namespace Go.Eng
open Go Go.RowKit
variable {P:Program} {w w0:World} {α:Type} {f:α->List Value} {ad:Option Addr} {l:List α} {cs args:Array Value} {i t N:Nat} {T:World->World->Prop} {D:World->Prop} {r:Option Nat} {ops:Array Oper} {Q:Exit->Act->World->Prop} {ds:List Deferred} {M:List (Nat×Value)} {a:Act} {H:List Res} {R:Ending->World->Prop} {G:(Nat->Bool)->(Nat->Value)->World->Prop}
def Arr {α:Type} (w:World) (sz:Nat) (f:α->List Value) (ad:Option Addr) (n cap:Nat) (l:List α):Prop:=l.length=n/\Sl w sz (.slice ad n cap) n (l.flatMap f)
def Ck (ad:Option Addr) (i:Int) (sz:Nat):Addr:=(ad.getD default).add (i.toNat*sz)
def Gj (ad:Option Addr) (m l sz:Nat):Option Addr:=if m=l then ad else ad.map (·.add (l*sz))
def arr {α:Type} (e sz:Nat) (f:α->List Value) (ad:Option Addr) (n cap:Nat) (l:List α):Res where
 foot:=λk=>(Value.slice ad n cap).ownBlock=some k
 holds:=λw=>l.length=n/\w.ownsRow 0 e sz (.slice ad n cap) n (l.flatMap f)
 loc:=λw w' h hb=>⟨hb.1,(vec (.slice ad n cap) e sz n (l.flatMap f)).loc w w' h hb.2⟩
 lt:=λ_ k hb hk=>(hb.2.lt k hk).2
section
variable {w':World} {sz n cap:Nat} {cs:List Cd}
theorem Arr.later (h:Arr w sz f ad n cap l) (b:Ext w w'):Arr w' sz f ad n cap l:=⟨h.1,h.2.later b⟩
theorem Arr.nil:Arr w sz f none 0 0 ([]:List α):=⟨rfl,Sl.nil w sz⟩
theorem Arr.len (h:Arr w sz f ad n cap l):l.length=n:=h.1
theorem Arr.le (h:Arr w sz f ad n cap l):n<=cap/\cap<=9223372036854775807:=by
 obtain ⟨_,ad',cap',e,_,b,c,_⟩:=h
 cases e
 simp only [maxLen] at c;exact ⟨b,om⟩
theorem Arr.cells (c:∀x,(f x).length=sz) (h:Arr w sz f ad n cap l) {i:Int} (h0:0<=i) (hi:i<n) (d:α):∃a,ad=some a/\∀j u,(f (l.getD i.toNat d))[j]? = some u->w.cell? ((Ck ad i sz).add j)=some u:=by
 obtain ⟨p,ad',cap',e,_,_,_,k⟩:=h
 cases e
 obtain ⟨a,rfl,_,m⟩:=k om;have b:i.toNat<l.length:=om
 have o:l[i.toNat]? = some (l.getD i.toNat d):=by rw [List.getD_eq_getElem?_getD,List.getElem?_eq_getElem b];rfl
 refine ⟨a,rfl,λj u g=>?_⟩;have hj:j<sz:=by have:=(List.getElem?_eq_some_iff.1 g).1;rw [c] at this;exact this
 have:=m (i.toNat*sz+j) u (by rw [Vz c l i.toNat j _ o hj];exact g);show w.cell? ((a.add (i.toNat*sz)).add j)=some u;rw [Vt];exact this
theorem C05 {i:Int} (h:Arr w sz f ad n cap l) (c:R6 P t sz=true) (hb:Br cs=true->0<=i/\i<n) :
  Ob.ok P T D (.run cs (Instr.indexAt t (.slice ad n cap) (.int .i64 i)) (.pointer (some (Ck ad i sz)))):=by
 intro d w' _;obtain ⟨h0,hi⟩:=hb d;obtain ⟨_,ad',cap',e,_,_,_,g⟩:=h
 cases e
 obtain ⟨a,rfl,_,_⟩:=g om;obtain ⟨e',inf,j,b,k⟩:=Vc c;simp [Instr.indexAt,asIntOf,run_underlying j,sizeOf,typeInfo,b,k,h0,hi,Ck]
theorem A34 {lo hi mx:Nat} {vlo vhi vmx:Option Value} (c:R6 P t sz=true) (hb:∀w,(Instr.sliceBounds true n cap vlo vhi vmx).run P w=.ok (lo,hi,mx) w) (w:World) :
  (Instr.sliceAt t (.slice ad n cap) vlo vhi vmx).run P w=.ok (.slice (Gj ad mx lo sz) (hi-lo) (mx-lo)) w:=by
 obtain ⟨e',inf,d,b,e⟩:=Vc c;simp [Instr.sliceAt,Instr.slice,run_underlying d,hb,sizeOf,typeInfo,b,e,Gj]
theorem B0e {lo:Nat} (h:lo<=n) (w:World):(Instr.sliceBounds true n cap (some (.int .i64 (lo:Int))) none none).run P w=.ok (lo,n,cap) w:=by
 simp [Instr.sliceBounds,Instr.sliceBound,asIntOf,h]
theorem B0d {hi:Nat} (h:hi<=cap) (w:World):(Instr.sliceBounds true n cap none (some (.int .i64 (hi:Int))) none).run P w=.ok (0,hi,cap) w:=by
 simp [Instr.sliceBounds,Instr.sliceBound,asIntOf,h]
theorem B2e {lo:Nat} (b:R6 P t sz=true) (h:Br cs=true->lo<=n) :
  Ob.ok P T D (.run cs (Instr.sliceAt t (.slice ad n cap) (some (.int .i64 (lo:Int))) none none) (.slice (Gj ad cap lo sz) (n-lo) (cap-lo))):=λc w' _=>A34 b (B0e (h c)) w'
theorem B2d {hi:Nat} (b:R6 P t sz=true) (h:Br cs=true->hi<=cap) :
  Ob.ok P T D (.run cs (Instr.sliceAt t (.slice ad n cap) none (some (.int .i64 (hi:Int))) none) (.slice (Gj ad cap 0 sz) hi cap)):=λc w' _=>A34 b (B0d (h c)) w'
theorem Arr.cut (c:∀x,(f x).length=sz) (h:Arr w sz f ad n cap l) {lo hi mx:Nat} (y:lo<=hi) (z:hi<=n) (h3:hi<=mx) (h4:mx<=cap):Arr w sz f (Gj ad mx lo sz) (hi-lo) (mx-lo) ((l.drop lo).take (hi-lo)):=by
 have hl:=h.1;obtain ⟨_,ad',cap',e,_,h5,h6,r⟩:=h
 cases e
 have b:((l.drop lo).take (hi-lo)).length=hi-lo:=by rw [List.length_take,List.length_drop];omega
 refine ⟨b,_,_,rfl,by rw [Kr c,b],om,om,λq=>?_⟩;obtain ⟨a,rfl,s,t⟩:=r om;have o:mx≠lo:=om
 refine ⟨a.add (lo*sz),by simp [Gj,o],by rw [Uq];exact s,λj u d=>?_⟩;rw [Vt];refine t _ u ?_
 by_cases p:sz=0
 ·have:((l.drop lo).take (hi-lo)).flatMap f=[]:=List.eq_nil_of_length_eq_zero (by rw [Kr c,p];simp);rw [this] at d;simp at d
 ·have g:j<(hi-lo)*sz:=by
   have:=(List.getElem?_eq_some_iff.1 d).1;rw [Kr c,b] at this;exact this
  have v:j=(j/sz)*sz+j%sz:=by rw [Nat.mul_comm];exact (Nat.div_add_mod j sz).symm
  have hr:j%sz<sz:=Nat.mod_lt _ om;have i:j/sz<hi-lo:=by rw [Nat.div_lt_iff_lt_mul om];exact g
  have k:((l.drop lo).take (hi-lo))[j/sz]? = some (((l.drop lo).take (hi-lo))[j/sz]'om):=List.getElem?_eq_getElem om;have m:l[lo+j/sz]? = ((l.drop lo).take (hi-lo))[j/sz]?:=by rw [List.getElem?_take,if_pos i,List.getElem?_drop]
  rw [v,Vz c _ _ _ _ k hr] at d;rw [k] at m;have:=Vz c l (lo+j/sz) (j%sz) _ m hr;rw [show lo*sz+j=(lo+j/sz)*sz+j%sz by rw [Nat.add_mul];omega,this];exact d
end
section
variable {w':World} {e sz n cap:Nat} {cs:List Cd}
theorem St.arr (h:St w0 H w) (hi:H[i]? = some (arr e sz f ad n cap l)):Arr w sz f ad n cap l:=by
 have:=h.holds _ (List.mem_of_getElem? hi);exact ⟨this.1,Sl.of_own this.2⟩
theorem St.nilarr (h:St w0 H w) (e sz:Nat) (f:α->List Value):St w0 (Go.Eng.arr e sz f none 0 0 ([]:List α)::H) w :=
 h.push (Ext.refl w) ⟨rfl,World.ownsRow_nil w 0 e sz⟩ (λb hb=>by simp [Go.Eng.arr,Value.ownBlock] at hb)
theorem St.blk_arr {b:Nat} {cs:Array Value} (h:St w0 (Go.Eng.blk b e cs::H) w) (i:∀x,(f x).length=sz) (c:l.length=n) (d:l.flatMap f=cs.toList) (hn:n<=maxLen):St w0 (Go.Eng.arr e sz f (some ⟨b,0,none⟩) n n l::H) w:=by
 refine h.conv ⟨c,?_⟩ (λk g=>by simp [Go.Eng.arr,Value.ownBlock] at g;exact g.symm);rw [d];refine A77 (h.holds _ (List.mem_cons_self ..)) ?_ hn;have:=Kr i l;rw [d,c] at this
 simpa using this
end
section
variable {w':World}
theorem Ug {p:Addr} {u:Value} (b:Tc P t=true) (h:w.cell? p=some u):(loadVar t p).run P w=.ok u w:=by
 have:=Zk b h
 simpa [Instr.loadAt,Instr.sureAddr] using this
theorem Cb {p:Addr} {cs:List Value} (b:Sw P t=some cs.length) (h:∀j u,cs[j]? = some u->w.cell? (p.add j)=some u):(loadVar t p).run P w=.ok (.agg cs.toArray) w:=by
 have:=Zl b h
 simpa [Instr.loadAt,Instr.sureAddr] using this
theorem Blk.cell1 {b j:Nat} {t:TypeId} {v:Value} (h:Blk w b t cs) (hj:cs[j]? = some v):w.cell? ⟨b,j,none⟩=some v:=by
 rw [cell_of_row w b j cs t (0,0) h];exact hj
theorem Blk.later {b:Nat} {t:TypeId} (h:Blk w b t cs) (c:Ext w w'):Blk w' b t cs:=c.block h
structure Fresh {α:Type} (w w':World) (e sz:Nat) (f:α->List Value) (ad:Option Addr) (n cap:Nat) (l:List α):Prop where
 holds:(arr e sz f ad n cap l).holds w'
 foot:∀b,(arr e sz f ad n cap l).foot b->w.heap.size<=b
theorem Fresh.of {e sz n cap:Nat} (h:St w H w') (hi:H[i]? = some (Go.Eng.arr e sz f ad n cap l)):Fresh w w' e sz f ad n cap l :=
 ⟨h.holds _ (List.mem_of_getElem? hi),h.low _ (List.mem_of_getElem? hi)⟩
end
def Nt (ops:Array Oper):Nat->Nat->Option Nat
 | 0,_=>none
 | i+1,t=>match dstAt ops i with
  | some d=>bif Nat.beq d t then some i else Nt ops i t
  | none=>Nt ops i t
def Rm (ops:Array Oper) (a0:Act) (σ:Nat->Value) (i t:Nat):Value :=
 match Nt ops i t with
 | some j=>σ j
 | none=>a0.tmps.getD t undef
theorem Tq:∀{i t j:Nat},Nt ops i t=some j->j<i/\dstAt ops j=some t/\∀k,j<k->k<i->dstAt ops k≠some t:=by
 intro i
 induction i with
 | zero=>intro t j h;simp [Nt] at h
 | succ i ih =>
  intro t j h;simp only [Nt] at h;have rec_:Nt ops i t=some j->dstAt ops i≠some t->j<i+1/\dstAt ops j=some t/\∀k,j<k->k<i+1->dstAt ops k≠some t:=by
   intro h' b;obtain ⟨o,l,m⟩:=ih h';exact ⟨om,l,λk g c=>by
    rcases Nat.lt_or_ge k i with f|n
    ·exact m k g f
    ·have:k=i:=om
     rw [this];exact b⟩
  cases hd:dstAt ops i with
  | none=>rw [hd] at h;exact rec_ h (by rw [hd];simp)
  | some d =>
   rw [hd] at h;simp only at h
   cases hb:Nat.beq d t with
   | true =>
    rw [hb] at h;simp at h;subst h;rw [Nat.beq_eq] at hb;exact ⟨om,by rw [hd,hb],λk g c=>by omega⟩
   | false =>
    rw [hb] at h;simp at h;exact rec_ h (by rw [hd];intro e;cases e;simp at hb)
theorem Y2:∀{i t:Nat},Nt ops i t=none->∀k,k<i->dstAt ops k≠some t:=by
 intro i
 induction i with
 | zero=>intro t _ k f;omega
 | succ i ih =>
  intro t h k f;simp only [Nt] at h;have rec_:Nt ops i t=none->dstAt ops i≠some t->dstAt ops k≠some t:=by
   intro h' b;rcases Nat.lt_or_ge k i with c|g
   ·exact ih h' k c
   ·have:k=i:=om
    rw [this];exact b
  cases hd:dstAt ops i with
  | none=>rw [hd] at h;exact rec_ h (by rw [hd];simp)
  | some d =>
   rw [hd] at h;simp only at h
   cases hb:Nat.beq d t with
   | true=>rw [hb] at h;simp at h
   | false=>rw [hb] at h;simp at h;exact rec_ h (by rw [hd];intro e;cases e;simp at hb)
def Uo (σ:Nat->Value) (i:Nat) (v:Value):Nat->Value:=λk=>if k=i then v else σ k
def OpGB (P:Program) (r:Option Nat) (ops:Array Oper) (o:Oper) (a:Act) (w:World) (R:Value->World->Prop) (B:List PanicEntry->World->Prop):Prop :=
 OpG P r ops o a w R\/(Region.wanted o (yielded ops a.tmps)=true/\∃f args w',(o.semAt r a.eval).run P w=.ok (.enter f args) w'/\Calls P f args w' (λe w''=>(∃v,e=.returned v/\R v w'')\/∃ch,e=.panicked ch/\B ch w''))
def B04 (P:Program) (r:Option Nat) (ops:Array Oper) (m N:Nat) (a0:Act) (B:List PanicEntry->World->Prop) (G:(Nat->Bool)->(Nat->Value)->World->Prop):Prop :=
 ∀(S:Nat->Bool) (σ:Nat->Value) (a:Act) (w:World) (i:Nat) (o:Oper),i<m->ops[i]? = some o->S i=false->(∀j,Anc ops j i->S j=true)->(∀j k,S k=true->Anc ops j k->S j=true)->(∀k,S k=true->k<m) ->
  a.tmps.size=N->a.defers=a0.defers->G S σ w->(∀t∈o.looksAt ops,a.tmps.getD t undef=Rm ops a0 σ i t)->OpGB P r ops o a w (λv w'=>G (λk=>S k||Nat.beq k i) (Uo σ i v) w') B
section
variable {B:List PanicEntry->World->Prop}
theorem OpGB.wpOpIn {o:Oper} {R:Value->World->Prop} {K:Act->World->Prop} (ho:ops[i]? = some o) (h:OpGB P r ops o a w R B)
  (c:∀v w',R v w'->K (a.put o.dst v) w') (hb:∀ch w',B ch w'->Q (.panic ch) a w'):wpOpIn (F0 r) 0 P ops Q i K a w:=by
 rcases h with h|⟨d,f,args,w',hr,g⟩
 ·exact h.wpOpIn ho c
 ·unfold Go.wpOpIn;rw [ho];simp only [d,if_true];refine ⟨λ_ _=>trivial,?_⟩
  change o.uponIn (F0 r) 0 P a K Q ((o.semAt r a.eval).run P w)
  rw [hr];refine ⟨λh=>by simp [F0,Fence.wide] at h,Q7.2 (Calls.mono g ?_)⟩;rintro e w'' (⟨v,rfl,b⟩|⟨ch,rfl,b⟩)
  ·exact c v w'' b
  ·exact hb ch w'' b
theorem OpGB.mono {o:Oper} {R R':Value->World->Prop} (h:OpGB P r ops o a w R B) (hr:∀v w',R v w'->R' v w'):OpGB P r ops o a w R' B:=by
 rcases h with h|⟨b,f,args,w',c,d⟩
 ·exact .inl (h.mono hr)
 ·refine .inr ⟨b,f,args,w',c,Calls.mono d ?_⟩;rintro e w'' (⟨v,rfl,g⟩|h)
  ·exact .inl ⟨v,rfl,hr _ _ g⟩
  ·exact .inr h
structure GInv (ops:Array Oper) (m:Nat) (a0:Act) (G:(Nat->Bool)->(Nat->Value)->World->Prop) (N:Nat) (S:Array Bool) (σ:Nat->Value) (a:Act) (w:World):Prop where
 ssz:S.size=ops.size
 low:∀i,S.getD i false=true->i<m
 closed:Closed ops S
 sz:a.tmps.size=N
 dfs:a.defers=a0.defers
 g:G (λk=>S.getD k false) σ w
 last:∀i d,S.getD i false=true->dstAt ops i=some d->(∀k,i<k->S.getD k false=true->dstAt ops k≠some d)->a.tmps.getD d undef=σ i
 base:∀t,(∀i,S.getD i false=true->dstAt ops i≠some t)->a.tmps.getD t undef=a0.tmps.getD t undef
theorem Ur {k:Nat} {d:Tmp} (h:dstAt ops k=some d):∃y,ops[k]? = some y/\y.dst=some d:=by
 unfold dstAt at h
 cases b:ops[k]? with
 | none=>rw [b] at h;simp at h
 | some y=>rw [b] at h;exact ⟨y,rfl,by simpa using h⟩
theorem A5z {m:Nat} {a0:Act} (d1:Bg ops N=true) (d2:Te ops m=true) (z:Nv ops m=true) (b0:Kh ops=true) (d9:m<=ops.size)
  (hB:∀ch a w,a.defers=a0.defers->B ch w->Q (.panic ch) a w) (c2:B04 P r ops m N a0 B G)
  (hK:∀a' w' σ,a'.tmps.size=N->a'.defers=a0.defers->G (λk=>Nat.blt k m) σ w'->(∀t,a'.tmps.getD t undef=Rm ops a0 σ m t)->WI P r ops Q m a' w') (hG:∀S S' σ w,(∀k,S k=S' k)->G S σ w->G S' σ w) :
  ∀(fuel:Nat) (S:Array Bool) (σ:Nat->Value) (a:Act) (w:World),GInv ops m a0 G N S σ a w->S.toList.count false<=fuel->wpAnyIn (F0 r) 0 P .any ops Q fuel S a w:=by
 have conf:∀{i j:Nat} {x y:Oper},i<j->j<m->ops[i]? = some x->ops[j]? = some y->((∃d,x.dst=some d/\d∈y.looksAt ops)\/(∃d,x.dst=some d/\y.dst=some d)\/(∃d,y.dst=some d/\d∈x.looksAt ops))->Anc ops i j:=by
  intro i j x y u hj hx hy hc;rcases Xv d2 u hj hx hy with h|h
  ·have hs:=Oper.apart_spec h;rcases hc with ⟨d,h1,h2⟩|⟨d,h1,h2⟩|⟨d,h1,h2⟩
   ·exact absurd h2 (hs.1 d h1)
   ·exact absurd h2 (hs.2.1 d h1)
   ·exact absurd h2 (hs.2.2 d h1)
  ·exact h
 have full:∀(S:Array Bool) (σ:Nat->Value) (a:Act) (w:World),GInv ops m a0 G N S σ a w->(∀i,i<m->S.getD i false=true)->WI P r ops Q m a w:=by
  intro S σ a w c f;refine hK a w σ c.sz c.dfs (hG _ _ σ w (λk=>?_) c.g) ?_
  ·by_cases s:k<m
   ·rw [f k s];exact (Nat.blt_eq.mpr s).symm
   ·have h1:S.getD k false=false:=by
     cases hb:S.getD k false with
     | false=>rfl
     | true=>exact absurd (c.low k hb) s
    have h2:Nat.blt k m=false:=by
     cases hb:Nat.blt k m with
     | false=>rfl
     | true=>exact absurd (Nat.blt_eq.mp hb) s
    rw [h1,h2]
  ·intro t;unfold Rm
   cases hs:Nt ops m t with
   | some j =>
    obtain ⟨h1,h2,h3⟩:=Tq hs;exact c.last j t (f j h1) h2 (λk s p=>h3 k s (c.low k p))
   | none=>exact c.base t (λi hi=>Y2 hs i (c.low i hi))
 intro fuel
 induction fuel with
 | zero =>
  intro S σ a w c d4;have f:∀i,i<ops.size->S.getD i false=true:=by
   intro i hi
   cases hb:S.getD i false with
   | true=>rfl
   | false =>
    have e2:S.getD i true=false:=by
     rw [Array.getD_eq_getD_getElem?] at hb ⊢;rw [Array.getElem?_eq_getElem (by rw [c.ssz];exact hi)] at hb ⊢
     simpa using hb
    have:=A2o (Tw e2);omega
  have c0:m=ops.size:=by
   rcases Nat.lt_or_ge m ops.size with h|h
   ·have:=c.low m (f m h);omega
   ·omega
  have hW:=full S σ a w c (λi hi=>f i om);refine Y8 b0 z 0 m S a w (Nat.le_refl _) c.ssz c.closed (λi=>?_) om om hW;exact ⟨λh=>⟨c.low i h,by have:=c.low i h;omega⟩,λh=>f i h.2⟩
 | succ fuel ih =>
  intro S σ a w c d4;refine ⟨λh0=>?_,λi hi=>?_⟩
  ·have f:=Xk b0 c.ssz h0;have c0:m=ops.size:=by
    rcases Nat.lt_or_ge m ops.size with h|h
    ·have:=c.low m (f m h);omega
    ·omega
   have hW:=full S σ a w c (λi hi=>f i om);rw [c0] at hW
   simpa [WI,wpOpsIn] using hW
  ·obtain ⟨h0,o,ho,d8⟩:=mem_ready.1 hi;have b9:i<ops.size:=(Array.getElem?_eq_some_iff.1 ho).1;have b4:S.getD i false=false:=Rt h0
   by_cases c3:i<m
   ·have hd:dstAt ops i=o.dst:=by simp [dstAt,ho]
    have c4:∀t∈o.looksAt ops,a.tmps.getD t undef=Rm ops a0 σ i t:=by
     intro t ht;have later:∀k,i<k->S.getD k false=true->dstAt ops k≠some t:=by
      intro k s p e3;obtain ⟨y,hy,c5⟩:=Ur e3;have:=(conf s (c.low k p) ho hy (.inr (.inr ⟨t,c5,ht⟩))).listed c.closed p;rw [b4] at this;cases this
     unfold Rm
     cases hs:Nt ops i t with
     | some j =>
      obtain ⟨h1,h2,h3⟩:=Tq hs;obtain ⟨x,hx,e4⟩:=Ur h2;have b2:=(conf h1 c3 hx ho (.inl ⟨t,e4,ht⟩)).ready c.closed hi;refine c.last j t b2 h2 (λk s p=>?_);rcases Nat.lt_trichotomy k i with q|q|q
      ·exact h3 k s q
      ·subst q;rw [b4] at p;cases p
      ·exact later k q p
     | none =>
      refine c.base t (λk p=>?_);rcases Nat.lt_trichotomy k i with q|q|q
      ·exact Y2 hs k q
      ·subst q;rw [b4] at p;cases p
      ·exact later k q p
    refine (c2 (λk=>S.getD k false) σ a w i o c3 ho b4 (λj hj=>hj.ready c.closed hi) (λj k s hj=>hj.listed c.closed s) (λk s=>c.low k s) c.sz c.dfs c.g c4).wpOpIn ho ?_ (λch w' hb=>hB ch a w' c.dfs hb);intro v w' hg;refine ih _ (Uo σ i v) _ _ ?_ ?_
    ·refine ⟨by simp [c.ssz],λj hj=>?_,c.closed.set hi,by rw [Uj];exact c.sz,by rw [Rj];exact c.dfs,hG _ _ _ _ (λk=>?_) hg,?_,?_⟩
     ·by_cases u:i=j
      ·subst u;exact c3
      ·rw [getD_set_ne false u] at hj;exact c.low j hj
     ·by_cases c6:i=k
      ·subst c6;rw [Mt (by rw [c.ssz];exact b9)];simp
      ·rw [getD_set_ne false c6];have:Nat.beq k i=false:=by
        cases hb:Nat.beq k i with
        | false=>rfl
        | true=>rw [Nat.beq_eq] at hb;exact absurd hb.symm c6
       rw [this,Bool.or_false]
     ·intro j d b2 b5 b6
      by_cases u:i=j
      ·subst u;rw [hd] at b5;rw [b5,Wj (by rw [c.sz];exact Re d1 ho b5)];simp [Uo]
      ·rw [getD_set_ne false u] at b2;have c7:o.dst≠some d:=by
        intro d5;rcases Nat.lt_or_ge j i with d6|d6
        ·exact b6 i d6 (Mt (by rw [c.ssz];exact b9)) (by rw [hd];exact d5)
        ·obtain ⟨y,hy,c5⟩:=Ur b5;have:=(conf (show i<j by omega) (c.low j b2) ho hy (.inr (.inl ⟨d,d5,c5⟩))).listed c.closed b2;rw [b4] at this;cases this
       rw [Rk c7,c.last j d b2 b5 (λk s p=>b6 k s (getD_set_true p))];simp [Uo,Ne.symm u]
     ·intro t b7;have c7:o.dst≠some t:=λe=>b7 i (Mt (by rw [c.ssz];exact b9)) (by rw [hd];exact e);rw [Rk c7];exact c.base t (λk s=>b7 k (getD_set_true s))
    ·have h1:=A2p S.toList i (Tw h0);have h2:(S.setIfInBounds i true).toList=S.toList.set i true:=by simp
     rw [h2];omega
   ·have f:∀j,j<i->S.getD j false=true:=λj hj=>(Wq z om b9 hj).ready c.closed hi;have f0:i=m:=by
     rcases Nat.lt_or_ge m i with h|h
     ·have:=c.low m (f m h);omega
     ·omega
    have hW:=full S σ a w c (λj hj=>f j om);have c8:∀j,S.getD j false=true↔j<m/\j<ops.size:=λj=>⟨λh=>⟨c.low j h,by have:=c.low j h;omega⟩,λh=>f j om⟩;have e5:ops.size<=m+(fuel+1):=by
     have:∀(n k:Nat) (l:List Bool),l.length=n->(∀j,k<=j->j<n->l[j]? = some false)->n<=k+l.count false:=by
      intro n
      induction n with
      | zero=>intro k l _ _;omega
      | succ n ihn =>
       intro k l hl hf
       cases l with
       | nil=>simp at hl
       | cons b l =>
        cases k with
        | zero =>
         have d7:=hf 0 (Nat.le_refl _) om;simp at d7;subst d7;have:=ihn 0 l (by simpa using hl) (λj _ hj=>by simpa using hf (j+1) om om);simp;omega
        | succ k =>
         have:=ihn k l (by simpa using hl) (λj hj c9=>by simpa using hf (j+1) om om);have f5:l.count false<=(b::l).count false:=by cases b<;>simp
         omega
     have:=this ops.size m S.toList (by simpa using c.ssz) (λj hj c9=>by
      have c1:¬S.getD j false=true:=λh=>by have:=c.low j h;omega
      rw [Array.getElem?_toList];rw [Array.getD_eq_getD_getElem?,Array.getElem?_eq_getElem (by rw [c.ssz];exact c9)] at c1;rw [Array.getElem?_eq_getElem (by rw [c.ssz];exact c9)]
      simpa using c1)
     omega
    exact (Y8 b0 z (fuel+1) m S a w (Nat.le_refl _) c.ssz c.closed c8 e5 d9 hW).2 i hi
theorem A41 {id m:Nat} (p:P.follows .mixedOrders=true) (l:Bg ops N=true) (n:Te ops m=true) (c:Nv ops m=true)
  (f:Kh ops=true) (q:m<=ops.size) (u:∀ch a' w,a'.defers=a.defers->B ch w->Q (.panic ch) a' w) (g:B04 P r ops m N a B G) (v:a.tmps.size=N) (s:∀S S' σ w,(∀k,S k=S' k)->G S σ w->G S' σ w) (σ0:Nat->Value) (h0:G (λ_=>false) σ0 { w with drawn:=w.drawn+1 })
  (x:∀a' w' σ,a'.tmps.size=N->a'.defers=a.defers->G (λk=>Nat.blt k m) σ w'->(∀t,a'.tmps.getD t undef=Rm ops a σ m t)->WI P r ops Q m a' w'):WP P r (.region id ops true) Q a w:=by
 refine wpIn_region_any p ?_;have b:∀i,(Array.replicate ops.size false).getD i false=false:=by
  intro i
  cases hb:(Array.replicate ops.size false).getD i false with
  | false=>rfl
  | true =>
   have:=Vh hb;simp at this;simp [this] at hb
 have j:∀i,¬(Array.replicate ops.size false).getD i false=true:=λi h=>by rw [b i] at h;cases h
 refine A5z l n c f q u g x s ops.size _ σ0 a _ ⟨sm,λi h=>absurd h (j i),λi o e h=>absurd h (j i),v,rfl,s _ _ _ _ (λk=>(b k).symm) h0,λi d h=>absurd h (j i),λt _=>rfl⟩ ?_;refine Nat.le_trans List.count_le_length ?_;simp
end
section
variable {ch:List Nat} {vals:List Value}
structure Tok where
 prod:Option Nat
 cons:Option Nat
 res:Value->Res
def Tok.at (k:Tok) (σ:Nat->Value):Res:=match k.prod with|some p=>k.res (σ p)|none=>k.res undef
end
section
variable {F:List Res} {e sz n:Nat} {l':List α} {o:Oper} {c:Nat}
end
section
variable {F:List Res} {R S:Res} {e sz n cap:Nat}
end
structure SlV where
 ad:Option Addr
 n:Nat
 cap:Nat
instance:Inhabited SlV:=⟨⟨none,0,0⟩⟩
def Res.both (R S:Res):Res where
 foot:=λb=>R.foot b\/S.foot b
 holds:=λw=>R.holds w/\S.holds w
 loc:=λw w' h hb=>⟨R.loc w w' (λb hk=>h b (.inl hk)) hb.1,S.loc w w' (λb hk=>h b (.inr hk)) hb.2⟩
 lt:=λw b hb hk=>hk.elim (R.lt w b hb.1) (S.lt w b hb.2)
def Res.none:Res where
 foot:=λ_=>False
 holds:=λ_=>True
 loc:=λ_ _ _ h=>h
 lt:=λ_ _ _ h=>h.elim
section
variable {R S:Res}
theorem St.both (h:St w0 (R::S::H) w):St w0 (R.both S::H) w:=by
 have e:=List.pairwise_cons.1 h.apart;have d:=List.pairwise_cons.1 e.2;refine ⟨h.ext,λT c=>?_,λT c b hb=>?_,List.pairwise_cons.2 ⟨λT c b hb=>?_,d.2⟩⟩
 ·rcases List.mem_cons.1 c with rfl|c
  ·exact ⟨h.holds _ sm,h.holds _ sm⟩
  ·exact h.holds T (by simp [c])
 ·rcases List.mem_cons.1 c with rfl|c
  ·rcases hb with hb|hb
   ·exact h.low R sm b hb
   ·exact h.low S sm b hb
  ·exact h.low T (by simp [c]) b hb
 ·rcases hb with hb|hb
  ·exact e.1 T (by simp [c]) b hb
  ·exact d.1 T c b hb
structure Made (w w':World) (R:Res):Prop where
 holds:R.holds w'
 foot:∀b,R.foot b->w.heap.size<=b
theorem Made.of (h:St w H w0) (hi:H[i]? = some R):Made w w0 R:=⟨h.holds _ (List.mem_of_getElem? hi),h.low _ (List.mem_of_getElem? hi)⟩
theorem St.res (h:St w0 H w) (hi:H[i]? = some R):R.holds w:=h.holds _ (List.mem_of_getElem? hi)
theorem St.pick (is:List Nat) (hn:is.Nodup) (h:St w0 H w):St w0 (is.filterMap λi=>H[i]?) w:=by
 have hm:∀R,R∈is.filterMap (λi=>H[i]?)->R∈H:=λR c=>by
  obtain ⟨i,_,hi⟩:=List.mem_filterMap.1 c;exact List.mem_of_getElem? hi
 refine ⟨h.ext,λR c=>h.holds R (hm R c),λR c=>h.low R (hm R c),?_⟩;rw [List.pairwise_filterMap];refine hn.imp ?_;intro i j d R c S l b g k;have hi:=List.getElem?_eq_some_iff.1 c;have hj:=List.getElem?_eq_some_iff.1 l;rcases Nat.lt_or_gt_of_ne d with e|f
 ·have:=List.pairwise_iff_getElem.1 h.apart i j hi.1 hj.1 e b;rw [hi.2,hj.2] at this;exact this g k
 ·have:=List.pairwise_iff_getElem.1 h.apart j i hj.1 hi.1 f b;rw [hi.2,hj.2] at this;exact this k g
theorem St.madeL {w':World} {H':List Res} (h:St w0 H w) (d:St w H' w'):St w0 (H'++H) w':=by
 have h':=h.later d.ext;refine ⟨h'.ext,λT c=>?_,λT c b hb=>?_,List.pairwise_append.2 ⟨d.apart,h'.apart,λU f T c b hb e=>?_⟩⟩
 ·rcases List.mem_append.1 c with c|c
  ·exact d.holds T c
  ·exact h'.holds T c
 ·rcases List.mem_append.1 c with c|c
  ·exact Nat.le_trans h.ext.size (d.low T c b hb)
  ·exact h'.low T c b hb
 ·have:=T.lt w b (h.holds T c) e;have:=d.low U f b hb;omega
end
def Ct (b:Nat) (o:Obj):Res where
 foot:=λk=>k=b
 holds:=λw=>w.heap[b]? = some o
 loc:=λw w' h hb=>(h b rfl).trans hb
 lt:=λw k hb hk=>by subst hk;exact (Array.getElem?_eq_some_iff.1 hb).1
section
theorem St.putObj {b:Nat} {o:Obj} (o':Obj) (h:St w0 H w) (hi:H[i]? = some (Ct b o)):St w0 (H.set i (Ct b o')) (w.putObj b o'):=by
 have hb:w.heap[b]? = some o:=h.res hi;refine h.upd hi rfl rfl rfl (by simp [World.putObj]) (λk _ c=>World.putObj_heap_other (λe=>c e)) ?_ (λk c=>.inl c);exact World.putObj_heap_same (Array.getElem?_eq_some_iff.1 hb).1
theorem St.allocObj (o:Obj) (h:St w0 H w):St w0 (Ct w.heap.size o::H) (w.alloc o) :=
 h.push ((Below.refl _ w).alloc (Nat.le_refl _) o) (World.alloc_heap_new w o) (λb hb=>by rw [show b=w.heap.size from hb];exact Nat.le_refl _)
def Yields (P:Program) (l:Nat) (args:Array Value) (w:World) (R:Bool->World->Prop):Prop :=
 ∃f tmps assign body,(Instr.yield l args).run P w=.ok (.round l f tmps assign body) w/\RoundIn (F0 none) 0 P l f tmps assign body w (λe w'=>∃b,e=.returned (.bool b)/\R b w')
end
structure YieldAt (P:Program) (ops:Array Oper) (k:Nat) (M:List (Nat×Value)) (l:Nat) (args:Array Value):Prop where
 eq:((plainAt ops k M).bind λo=>match o.op with|.call c=>(match pureSem P (resolve (rhoE (ofM M)) c o.type) with|some d=>(match d.target with|.fn (.yield l) _=>some (l,d.args)|_=>none)|_=>none)|_=>none)=some (l,args)
section
theorem A28 {k:Nat} (k':Nat) (M':Bool->List (Nat×Value)) {l:Nat} {R:Bool->World->Prop} (u:Fr N ds M a) (m:Bg ops N=true) (g:YieldAt P ops k M l args) (v:Yields P l args w R)
  (x:∀b,NextM ops k M (.bool b) (M' b)) (y:k+1=k') (next:∀b w' a',R b w'->Fr N ds (M' b) a'->WI P none ops Q k' a' w'):WI P none ops Q k a w:=by
 have g:=g.eq
 cases q:plainAt ops k M with
 | none=>rw [q] at g;simp at g
 | some o =>
  rw [q] at g;simp only [Option.bind_some] at g;obtain ⟨s,z,h3⟩:=Mb (r:=none) q u;obtain ⟨f,tmps,assign,body,n,i⟩:=v;have j:(execOp (rhoE (ofM M)) o).run P w=.ok (.round l f tmps assign body) w:=by
   split at g
   ·rename_i c t
    split at g
    ·rename_i d hd
     split at g
     ·rename_i l' cap p
      simp only [Option.some.injEq,Prod.mk.injEq] at g;obtain ⟨rfl,rfl⟩:=g;unfold execOp;rw [t];simp only [Sem.run_bind,Bl _ _ hd w,Result.andThen];unfold invoke;rw [p];exact n
     ·simp at g
    ·simp at g
   ·simp at g
  have hi:k<ops.size:=(Array.getElem?_eq_some_iff.1 s).1;have e:List.range' k (ops.size-k)=k::List.range' (k+1) (ops.size-(k+1)):=by
   rw [show ops.size-k=(ops.size-(k+1))+1 by omega,List.range'_succ]
  unfold WI;rw [e,wpOpsIn_cons];unfold Go.wpOpIn;rw [s];simp only;rw [if_pos z];refine ⟨λ_ _=>trivial,?_⟩
  change o.uponIn (F0 none) 0 P a _ Q ((o.semAt none a.eval).run P w)
  rw [h3,j,Oper.uponIn_round];refine ⟨λh=>by simp [F0,Fence.wide] at h,RoundIn.mono i ?_⟩;rintro e w' ⟨b,rfl,hR⟩;have:=next b w' _ hR (K4 s m u (x b))
  rw [←y] at this;exact this
def B4x (a:Act) (ps:Array Tmp) (assign body:Code) (D:Nat) (fn:FuncId) (s:LoopState) (pe:Option Code):Obj:=.loop { state:=s,pending:=pe,fn,tmps:=a.tmps,params:=ps,assign,body,defers:=D }
theorem A5i:∀(zs:List (Nat×Value)) (t:Array Value),(zs.foldl (λt p=>t.setIfInBounds p.1 p.2) t).size=t.size:=by
 intro zs
 induction zs with
 | nil=>intro t;rfl
 | cons z zs ih=>intro t;rw [List.foldl_cons,ih];simp
theorem Yt:∀{M1 M2:List (Nat×Value)} {t:Nat},lookM (M1++M2) t=(lookM M1 t).or (lookM M2 t):=by
 intro M1
 induction M1 with
 | nil=>intro M2 t;simp [lookM]
 | cons p M1 ih =>
  intro M2 t;obtain ⟨k,v⟩:=p;simp only [List.cons_append,lookM,ih]
  cases Nat.beq k t<;>simp
theorem A6u:∀(zs:List (Nat×Value)) (t:Array Value) (i:Nat) (v:Value),(∀p∈zs,p.1<t.size)->(lookM zs.reverse i=some v->(zs.foldl (λt p=>t.setIfInBounds p.1 p.2) t).getD i undef=v)/\(lookM zs.reverse i=none->(zs.foldl (λt p=>t.setIfInBounds p.1 p.2) t).getD i undef=t.getD i undef):=by
 intro zs
 induction zs with
 | nil=>intro t i v _;exact ⟨λh=>by simp [lookM] at h,λ_=>rfl⟩
 | cons z zs ih =>
  intro t i v d;obtain ⟨k,u⟩:=z;have j:k<t.size:=d (k,u) (List.mem_cons_self ..);have ih':=ih (t.setIfInBounds k u) i v (λp f=>by rw [Array.size_setIfInBounds];exact d p (List.mem_cons_of_mem _ f));have b:(t.setIfInBounds k u).getD i undef=if k=i then u else t.getD i undef:=by
   simp only [Array.getD_eq_getD_getElem?,Array.getElem?_setIfInBounds]
   split
   ·rename_i e;subst e;simp
   ·rfl
  rw [List.foldl_cons,List.reverse_cons,Yt];have c:lookM [(k,u)] i=if k=i then some u else none:=by
   simp only [lookM]
   by_cases e:k=i
   ·subst e;simp
   ·rw [if_neg e,show Nat.beq k i=false from by rw [←Bool.not_eq_true,Nat.beq_eq];exact e];rfl
  rw [c]
  cases g:lookM zs.reverse i with
  | some v' =>
   constructor
   ·intro h;simp at h;subst h;exact ((ih (t.setIfInBounds k u) i v' (λp f=>by rw [Array.size_setIfInBounds];exact d p (List.mem_cons_of_mem _ f))).1 g)
   ·intro h;simp at h
  | none =>
   have:=ih'.2 g;rw [this,b];constructor
   ·intro h;simp only [Option.none_or] at h
    split at h
    ·rename_i e;rw [if_pos e];simpa using h
    ·simp at h
   ·intro h;simp only [Option.none_or] at h
    split at h
    ·simp at h
    ·rename_i e;rw [if_neg e]
def B8j (w0:World) (l:Nat) (rec:LoopState->Option Code->Obj) (R:Bool->World->Prop):Exit->Act->World->Prop
 | .normal,_,w=>∃Hy,St w0 (Ct l (rec .busy none)::Hy) w/\∀w',St w0 (Ct l (rec .ready none)::Hy) w'->R true w'
 | .ret,_,w=>∃Hy,St w0 (Ct l (rec .busy none)::Hy) w/\∀w',St w0 (Ct l (rec .done (some .ret))::Hy) w'->R false w'
 | .exit id,_,w=>∃Hy,St w0 (Ct l (rec .busy none)::Hy) w/\∀w',St w0 (Ct l (rec .done (some (.exit id)))::Hy) w'->R false w'
 | _,_,_=>False
theorem A43 {l D:Nat} {fn:FuncId} {ps:Array Tmp} {assign body:Code} {R:Bool->World->Prop} {Hx:List Res} {b0:Act} {rec:LoopState->Option Code->Obj} (g:rec=B4x b0 ps assign body D fn) (zs M1:List (Nat×Value)) (m:Fr N ds M b0) (x:(ps.zip args).toList=zs) (n:args.size=ps.size)
  (o:(zs.all λp=>Nat.blt p.1 N)=true) (r:M1.map (λp=>lookM (zs.reverse++M) p.1)=M1.map (λp=>some p.2)) (y:St w0 (Ct l (rec .ready none)::Hx) w)
  (h:∀a0,Fr N [] M1 a0->WP P (some l) assign (Exit.then (λa1 w1=>∃Hy,St w0 (Ct l (rec .ready none)::Hy) w1/\∀w2,St w0 (Ct l (rec .busy none)::Hy) w2->WP P (some l) body (B8j w0 l rec R) a1 w2) (λ_ _ _=>False)) a0 w) :
  Yields P l args w R:=by
 subst g;have z:=y.res (i:=0) rfl;refine ⟨fn,_,assign,body,run_yield (P:=P) z n,roundIn_of_wpIn (F:=F0 none) trivial ?_⟩;have s:Fr N [] M1 { tmps:=(ps.zip args).foldl (λt (p,v)=>t.setIfInBounds p v) b0.tmps,defers:=[] }:=by
  have e:(ps.zip args).foldl (λt (p,v)=>t.setIfInBounds p v) b0.tmps=zs.foldl (λt p=>t.setIfInBounds p.1 p.2) b0.tmps:=by
   rw [←Array.foldl_toList,x]
  rw [e];refine ⟨by rw [A5i];exact m.size,rfl,λp hp=>?_⟩;have d:=List.map_inj_left.1 r p hp;have hb:∀q∈zs,q.1<b0.tmps.size:=λq d=>by rw [m.size];exact Nat.blt_eq.mp (List.all_eq_true.1 o q d)
  have u:=A6u zs b0.tmps p.1 p.2 hb;rw [Yt] at d
  cases hr:lookM zs.reverse p.1 with
  | some v=>rw [hr] at d;simp at d;subst d;exact u.1 hr
  | none=>rw [hr] at d;simp at d;rw [show (({ tmps:=zs.foldl (λt p=>t.setIfInBounds p.1 p.2) b0.tmps,defers:=[] }:Act).tmps.getD p.1 undef)=_ from u.2 hr];exact m.get d
 refine wpIn_mono (h _ s) ?_;intro e a1 w1 d
 cases e with
 | normal =>
  obtain ⟨Hy,j,hb⟩:=d;refine ⟨_,run_beginRound (P:=P) (j.res (i:=0) rfl) rfl,?_⟩;refine wpIn_mono (hb _ (j.putObj (i:=0) _ rfl)) ?_;intro e a2 w2 f
  cases e with
  | normal =>
   obtain ⟨Hz,b,k⟩:=f;exact ⟨_,_,run_endRound (P:=P) none (b.res (i:=0) rfl),true,rfl,k _ (b.putObj (i:=0) _ rfl)⟩
  | ret =>
   obtain ⟨Hz,b,k⟩:=f;exact ⟨_,_,run_endRound (P:=P) (some .ret) (b.res (i:=0) rfl),false,rfl,k _ (b.putObj (i:=0) _ rfl)⟩
  | exit id =>
   obtain ⟨Hz,b,k⟩:=f;exact ⟨_,_,run_endRound (P:=P) (some (.exit id)) (b.res (i:=0) rfl),false,rfl,k _ (b.putObj (i:=0) _ rfl)⟩
  | goto t=>exact f.elim
  | panic c=>exact f.elim
  | outgrown=>exact f.elim
 | ret=>exact d.elim
 | exit id=>exact d.elim
 | goto t=>exact d.elim
 | panic c=>exact d.elim
 | outgrown=>exact d.elim
def K3 (Ds:List Nat):List Deferred:=Ds.map λD=>⟨.collected D,#[]⟩
def Bw (Ds:List Nat):Res where
 foot:=λk=>k∈Ds
 holds:=λw=>Ds.Nodup/\∀D∈Ds,w.heap[D]? = some (.deferred (some []))
 loc:=λ_w _w' h hb=>⟨hb.1,λD hD=>(h D hD).trans (hb.2 D hD)⟩
 lt:=λ_w k hb hk=>(Array.getElem?_eq_some_iff.1 (hb.2 k hk)).1
theorem St.mark {D:Nat} {Ds:List Nat} (h:St w0 (Ct D (.deferred (some []))::Bw Ds::H) w):St w0 (Bw (D::Ds)::H) w:=by
 have d:=List.pairwise_cons.1 h.apart;refine h.both.conv ⟨List.nodup_cons.2 ⟨λe=>d.1 (Bw Ds) sm D rfl e,(h.res (i:=1) rfl).1⟩,λE c=>?_⟩ (λb hb=>?_)
 ·rcases List.mem_cons.1 c with rfl|c
  ·exact h.res (i:=0) rfl
  ·exact (h.res (i:=1) rfl).2 E c
 ·rcases List.mem_cons.1 hb with rfl|hb
  ·exact .inl rfl
  ·exact .inr hb
theorem St.noMarks (h:St w0 H w):St w0 (Bw []::H) w:=h.push (Ext.refl w) ⟨List.nodup_nil,λ_ h=>by simp at h⟩ (λ_ hb=>by simp [Bw] at hb)
theorem A8v {f:FuncId} {fn:Func} {c:Code} (e:P.funcs[f]? = some fn) (hb:fn.body=some c) (N:Nat) (M:List (Nat×Value)) (d:fn.ntmps=N)
  (b:Nat.ble args.size N=true) (g:M.map (λp=>(args++Array.replicate (N-args.size) undef).getD p.1 undef)=M.map Prod.snd) (h:∀a,Fr N (K3 []) M a->WP P none c (bodyPostM (F0 none) 0 P fn R) a w):Calls P f args w R:=by
 refine Q7 (r:=none) (n:=0) |>.1 (callsIn_of_wp_marks e hb trivial ?_ rfl);refine h _ ⟨?_,rfl,λp i=>?_⟩
 ·have:=Nat.le_of_ble_eq_true b;simp [d];omega
 ·rw [d];exact List.map_inj_left.1 g p i
theorem B4i {fn:Func} {tmps:Array Value} :∀(Ds:List Nat) (w:World) (H:List Res),St w0 (Bw Ds::H) w->(∀w',St w0 H w'->∃v,(results fn tmps).run P w'=.ok v w'/\R (.returned v) w') ->
  LeavesInM (F0 none) 0 P fn tmps R (K3 Ds) .returning w:=by
 intro Ds
 induction Ds with
 | nil=>intro w H c h;exact h w c.drop1
 | cons D Ds ih =>
  intro w H c h;have hm:=c.res (i:=0) rfl;have j:w.heap[D]? = some (.deferred (some [])):=hm.2 D (List.mem_cons_self ..);refine ⟨sm,.inl ⟨D,_,rfl,run_takeDeferred j,ih _ H ?_ h⟩⟩;have b:=List.nodup_cons.1 hm.1;refine c.upd (i:=0) (R':=Bw Ds) rfl rfl rfl rfl (by simp [World.putObj]) (λk _ d=>World.putObj_heap_other (λe=>d (by rw [e];exact List.mem_cons_self ..))) ⟨b.2,λE g=>?_⟩ (λk d=>.inl (List.mem_cons_of_mem _ d));have f:E≠D:=λe=>b.1 (e▸g);rw [World.putObj_heap_other f];exact hm.2 E (List.mem_cons_of_mem _ g)
theorem Uv {fn:Func} {Ds:List Nat} (rs:List ResultVar) (vs:List Value) (d:Fr N (K3 Ds) M a) (f:St w0 (Bw Ds::H) w) (b:fn.results=rs.toArray)
  (h:∀w',St w0 H w'->Y6 P w' M rs vs/\R (.returned (match vs with|[v]=>v|_=>.tuple vs.toArray)) w'):bodyPostM (F0 none) 0 P fn R .ret a w:=by
 show LeavesInM (F0 none) 0 P fn a.tmps R a.defers .returning w;rw [d.defers];refine B4i Ds w H f λw' c=>?_;obtain ⟨g,i⟩:=h w' c;refine ⟨_,?_,i⟩;have hm:=Zt (a:=a) rs vs g d;have e:results fn a.tmps=(do let vs ←fn.results.mapM (Xz a.tmps);pure (if h:vs.size=1 then vs[0] else .tuple vs)):=by
  unfold results
  congr 1
 rw [e,b,List.mapM_toArray];simp [hm];rcases vs with _|⟨v,_|⟨u,vs⟩⟩<;>simp
structure SkipAt (ops:Array Oper) (k:Nat) (M:List (Nat×Value)):Prop where
 eq:((ops[k]?).bind (·.guard)).bind (guardIs ops M)=some false
theorem B2y {k:Nat} (k':Nat) (M':List (Nat×Value)) (e:Fr N ds M a) (c:Bg ops N=true) (b:SkipAt ops k M) (f:NextM ops k M undef M') (i:k+1=k')
  (next:∀a',Fr N ds M' a'->WI P r ops Q k' a' w):WI P r ops Q k a w:=by
 have b:=b.eq
 cases ho:ops[k]? with
 | none=>rw [ho] at b;simp at b
 | some o =>
  rw [ho] at b;simp only [Option.bind_some] at b
  cases d:o.guard with
  | none=>rw [d] at b;simp at b
  | some g =>
   rw [d] at b;simp only [Option.bind_some] at b;have j:=Yo b e;refine WI.cons (R:=λv w'=>v=undef/\w'=w) ho ?_ ?_
   ·unfold OpG;have:Region.wanted o (yielded ops a.tmps)=false:=by simp only [Region.wanted,d];exact j
    rw [this];exact ⟨rfl,rfl⟩
   ·rintro v w' ⟨rfl,rfl⟩;rw [i];exact next _ (K4 ho c e f)
theorem St.pickT {A T:List Res} (is:List Nat) (hn:is.Nodup) (h:St w0 (A++T) w):St w0 ((is.filterMap λi=>A[i]?)++T) w:=by
 have hm:∀R,R∈is.filterMap (λi=>A[i]?)->R∈A:=λR b=>by
  obtain ⟨i,_,hi⟩:=List.mem_filterMap.1 b;exact List.mem_of_getElem? hi
 have c:∀R,R∈is.filterMap (λi=>A[i]?)++T->R∈A++T:=λR b=>by
  rcases List.mem_append.1 b with b|b
  ·exact List.mem_append_left _ (hm R b)
  ·exact List.mem_append_right _ b
 have d:=List.pairwise_append.1 h.apart;have e:St w0 A w:=h.sub (List.sublist_append_left ..);exact ⟨h.ext,λR b=>h.holds R (c R b),λR b=>h.low R (c R b),List.pairwise_append.2 ⟨(e.pick is hn).apart,d.2.1,λR b S f=>d.2.2 R (hm R b) S f⟩⟩
theorem St.sA {A T:List Res} {R:Res} (h:St w0 (A++R::T) w):St w0 (R::(A++T)) w:=h.perm List.perm_middle
theorem St.dA {A T:List Res} {R:Res} (h:St w0 (A++R::T) w):St w0 (A++T) w:=h.sub (List.Sublist.append_left (List.sublist_cons_self ..) A)
section
variable {a b c d e f g i j k l m n o p:Res} {T:List Res}
theorem St.d0 (h:St w0 (a::T) w):St w0 (T) w:=h.dA (A:=[])
theorem St.s1 (h:St w0 (a::b::T) w):St w0 (b::a::T) w:=h.sA (A:=[a])
theorem St.d1 (h:St w0 (a::b::T) w):St w0 (a::T) w:=h.dA (A:=[a])
theorem St.s2 (h:St w0 (a::b::c::T) w):St w0 (c::a::b::T) w:=h.sA (A:=[a,b])
theorem St.d2 (h:St w0 (a::b::c::T) w):St w0 (a::b::T) w:=h.dA (A:=[a,b])
theorem St.s3 (h:St w0 (a::b::c::d::T) w):St w0 (d::a::b::c::T) w:=h.sA (A:=[a,b,c])
theorem St.d3 (h:St w0 (a::b::c::d::T) w):St w0 (a::b::c::T) w:=h.dA (A:=[a,b,c])
theorem St.s4 (h:St w0 (a::b::c::d::e::T) w):St w0 (e::a::b::c::d::T) w:=h.sA (A:=[a,b,c,d])
theorem St.d4 (h:St w0 (a::b::c::d::e::T) w):St w0 (a::b::c::d::T) w:=h.dA (A:=[a,b,c,d])
theorem St.s5 (h:St w0 (a::b::c::d::e::f::T) w):St w0 (f::a::b::c::d::e::T) w:=h.sA (A:=[a,b,c,d,e])
theorem St.s6 (h:St w0 (a::b::c::d::e::f::g::T) w):St w0 (g::a::b::c::d::e::f::T) w:=h.sA (A:=[a,b,c,d,e,f])
theorem St.s7 (h:St w0 (a::b::c::d::e::f::g::i::T) w):St w0 (i::a::b::c::d::e::f::g::T) w:=h.sA (A:=[a,b,c,d,e,f,g])
end
end
end Go.Eng
