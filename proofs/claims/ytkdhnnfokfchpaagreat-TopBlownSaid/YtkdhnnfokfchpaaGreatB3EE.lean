import Derived.Test.YtkdhnnfokfchpaaGreatB3EA
import Derived.RangeFuncRecord
import Derived.RangeFuncLeaves
set_option linter.unusedVariables false
set_option linter.unusedSimpArgs false
set_option linter.unusedSectionVars false
namespace Go.Eng
open Go Go.RowKit
variable {P:Program} {w w0:World} {α:Type} {f:α->List Value} {ad:Option Addr} {l:List α} {i N:Nat} {r:Option Nat} {ops:Array Oper} {Q:Exit->Act->World->Prop} {ds:List Deferred} {M:List (Nat×Value)} {a:Act} {H:List Res} {R:Ending->World->Prop} {G:(Nat->Bool)->(Nat->Value)->World->Prop} {args:Array Value}
def Arr {α:Type} (w:World) (sz:Nat) (f:α->List Value) (ad:Option Addr) (n cap:Nat) (l:List α):Prop:=l.length=n/\Sl w sz (.slice ad n cap) n (l.flatMap f)
def Ce (ad:Option Addr) (i:Int) (sz:Nat):Addr:=(ad.getD default).add (i.toNat*sz)
def Fk (ad:Option Addr) (m l sz:Nat):Option Addr:=if m=l then ad else ad.map (·.add (l*sz))
def arr {α:Type} (e sz:Nat) (f:α->List Value) (ad:Option Addr) (n cap:Nat) (l:List α):Res where
 foot:=λk=>(Value.slice ad n cap).ownBlock=some k
 holds:=λw=>l.length=n/\w.ownsRow 0 e sz (.slice ad n cap) n (l.flatMap f)
 loc:=λw w' h hb=>⟨hb.1,(vec (.slice ad n cap) e sz n (l.flatMap f)).loc w w' h hb.2⟩
 lt:=λ_ k hb hk=>(hb.2.lt k hk).2
section
variable {w':World} {sz n cap:Nat} {cs:List Cd}
theorem Arr.nil:Arr w sz f none 0 0 ([]:List α):=⟨rfl,Sl.nil w sz⟩
theorem Arr.len (h:Arr w sz f ad n cap l):l.length=n:=h.1
theorem Arr.le (h:Arr w sz f ad n cap l):n<=cap/\cap<=9223372036854775807:=by
 obtain ⟨_,ad',cap',e,_,b,c,_⟩:=h
 cases e
 simp only [maxLen] at c;exact ⟨b,by omega⟩
theorem Arr.cells (c:∀x,(f x).length=sz) (h:Arr w sz f ad n cap l) {i:Int} (h0:0<=i) (hi:i<n) (d:α):∃a,ad=some a/\∀j u,(f (l.getD i.toNat d))[j]? = some u->w.cell? ((Ce ad i sz).add j)=some u:=by
 obtain ⟨p,ad',cap',e,_,_,_,k⟩:=h
 cases e
 obtain ⟨a,rfl,_,m⟩:=k (by omega);have b:i.toNat<l.length:=by omega
 have o:l[i.toNat]? = some (l.getD i.toNat d):=by rw [List.getD_eq_getElem?_getD,List.getElem?_eq_getElem b];rfl
 refine ⟨a,rfl,λj u g=>?_⟩;have hj:j<sz:=by have:=(List.getElem?_eq_some_iff.1 g).1;rw [c] at this;exact this
 have:=m (i.toNat*sz+j) u (by rw [Qi c l i.toNat j _ o hj];exact g);show w.cell? ((a.add (i.toNat*sz)).add j)=some u;rw [Qe];exact this
theorem B09 {T:World->World->Prop} {D:World->Prop} {t:Nat} {i:Int} (h:Arr w sz f ad n cap l) (c:Mx P t sz=true) (hb:Bc cs=true->0<=i/\i<n) :
  Ob.ok P T D (.run cs (Instr.indexAt t (.slice ad n cap) (.int .i64 i)) (.pointer (some (Ce ad i sz)))):=by
 intro d w' _;obtain ⟨h0,hi⟩:=hb d;obtain ⟨_,ad',cap',e,_,_,_,g⟩:=h
 cases e
 obtain ⟨a,rfl,_,_⟩:=g (by omega);obtain ⟨e',inf,j,b,k⟩:=Q1 c;simp [Instr.indexAt,asIntOf,run_underlying j,sizeOf,typeInfo,b,k,h0,hi,Ce]
theorem A2z {t lo hi mx:Nat} {vlo vhi vmx:Option Value} (c:Mx P t sz=true) (hb:∀w,(Instr.sliceBounds true n cap vlo vhi vmx).run P w=.ok (lo,hi,mx) w) (w:World) :
  (Instr.sliceAt t (.slice ad n cap) vlo vhi vmx).run P w=.ok (.slice (Fk ad mx lo sz) (hi-lo) (mx-lo)) w:=by
 obtain ⟨e',inf,d,b,e⟩:=Q1 c;simp [Instr.sliceAt,Instr.slice,run_underlying d,hb,sizeOf,typeInfo,b,e,Fk]
theorem A3p {lo:Nat} (h:lo<=n) (w:World):(Instr.sliceBounds true n cap (some (.int .i64 (lo:Int))) none none).run P w=.ok (lo,n,cap) w:=by
 simp [Instr.sliceBounds,Instr.sliceBound,asIntOf,h]
theorem A56 {T:World->World->Prop} {D:World->Prop} {t lo:Nat} (b:Mx P t sz=true) (h:Bc cs=true->lo<=n) :
  Ob.ok P T D (.run cs (Instr.sliceAt t (.slice ad n cap) (some (.int .i64 (lo:Int))) none none) (.slice (Fk ad cap lo sz) (n-lo) (cap-lo))):=λc w' _=>A2z b (A3p (h c)) w'
theorem Arr.cut (c:∀x,(f x).length=sz) (h:Arr w sz f ad n cap l) {lo hi mx:Nat} (z:lo<=hi) (h2:hi<=n) (h3:hi<=mx) (h4:mx<=cap):Arr w sz f (Fk ad mx lo sz) (hi-lo) (mx-lo) ((l.drop lo).take (hi-lo)):=by
 have hl:=h.1;obtain ⟨_,ad',cap',e,_,h5,h6,s⟩:=h
 cases e
 have b:((l.drop lo).take (hi-lo)).length=hi-lo:=by rw [List.length_take,List.length_drop];omega
 refine ⟨b,_,_,rfl,by rw [Gd c,b],by omega,by omega,λq=>?_⟩;obtain ⟨a,rfl,t,v⟩:=s (by omega);have o:mx≠lo:=by omega
 refine ⟨a.add (lo*sz),by simp [Fk,o],by rw [Pm];exact t,λj u d=>?_⟩;rw [Qe];refine v _ u ?_
 by_cases p:sz=0
 ·have:((l.drop lo).take (hi-lo)).flatMap f=[]:=List.eq_nil_of_length_eq_zero (by rw [Gd c,p];simp);rw [this] at d;simp at d
 ·have g:j<(hi-lo)*sz:=by
   have:=(List.getElem?_eq_some_iff.1 d).1;rw [Gd c,b] at this;exact this
  have y:j=(j/sz)*sz+j%sz:=by rw [Nat.mul_comm];exact (Nat.div_add_mod j sz).symm
  have r:j%sz<sz:=Nat.mod_lt _ (by omega);have i:j/sz<hi-lo:=by rw [Nat.div_lt_iff_lt_mul (by omega)];exact g
  have k:((l.drop lo).take (hi-lo))[j/sz]? = some (((l.drop lo).take (hi-lo))[j/sz]'(by omega)):=List.getElem?_eq_getElem (by omega);have m:l[lo+j/sz]? = ((l.drop lo).take (hi-lo))[j/sz]?:=by rw [List.getElem?_take,if_pos i,List.getElem?_drop]
  rw [y,Qi c _ _ _ _ k r] at d;rw [k] at m;have:=Qi c l (lo+j/sz) (j%sz) _ m r;rw [show lo*sz+j=(lo+j/sz)*sz+j%sz by rw [Nat.add_mul];omega,this];exact d
end
section
variable {w':World} {e sz n cap:Nat} {cs:List Cd}
theorem St.arr (h:St w0 H w) (hi:H[i]? = some (arr e sz f ad n cap l)):Arr w sz f ad n cap l:=by
 have:=h.holds _ (List.mem_of_getElem? hi);exact ⟨this.1,Sl.of_own this.2⟩
theorem St.nilarr (h:St w0 H w) (e sz:Nat) (f:α->List Value):St w0 (Go.Eng.arr e sz f none 0 0 ([]:List α)::H) w :=
 h.push (Ext.refl w) ⟨rfl,World.ownsRow_nil w 0 e sz⟩ (λb hb=>by simp [Go.Eng.arr,Value.ownBlock] at hb)
theorem St.blk_arr {b:Nat} {cs:Array Value} (h:St w0 (Go.Eng.blk b e cs::H) w) (i:∀x,(f x).length=sz) (c:l.length=n) (d:l.flatMap f=cs.toList) (j:n<=maxLen):St w0 (Go.Eng.arr e sz f (some ⟨b,0,none⟩) n n l::H) w:=by
 refine h.conv ⟨c,?_⟩ (λk g=>by simp [Go.Eng.arr,Value.ownBlock] at g;exact g.symm);rw [d];refine A0r (h.holds _ (List.mem_cons_self ..)) ?_ j;have:=Gd i l;rw [d,c] at this
 simpa using this
end
section
variable {w':World}
theorem Be {t:Nat} {p:Addr} {cs:List Value} (b:Nq P t=some cs.length) (h:∀j u,cs[j]? = some u->w.cell? (p.add j)=some u):(loadVar t p).run P w=.ok (.agg cs.toArray) w:=by
 have:=Tk b h
 simpa [Instr.loadAt,Instr.sureAddr] using this
theorem Blk.cell1 {b j:Nat} {t:TypeId} {cs:Array Value} {v:Value} (h:Blk w b t cs) (hj:cs[j]? = some v):w.cell? ⟨b,j,none⟩=some v:=by
 rw [cell_of_row w b j cs t (0,0) h];exact hj
structure Fresh {α:Type} (w w':World) (e sz:Nat) (f:α->List Value) (ad:Option Addr) (n cap:Nat) (l:List α):Prop where
 holds:(arr e sz f ad n cap l).holds w'
 foot:∀b,(arr e sz f ad n cap l).foot b->w.heap.size<=b
theorem Fresh.of {e sz n cap:Nat} (h:St w H w') (hi:H[i]? = some (Go.Eng.arr e sz f ad n cap l)):Fresh w w' e sz f ad n cap l :=
 ⟨h.holds _ (List.mem_of_getElem? hi),h.low _ (List.mem_of_getElem? hi)⟩
end
def Jo (ops:Array Oper):Nat->Nat->Option Nat
 | 0,_=>none
 | i+1,t=>match dstAt ops i with
  | some d=>bif Nat.beq d t then some i else Jo ops i t
  | none=>Jo ops i t
def M0 (ops:Array Oper) (a0:Act) (σ:Nat->Value) (i t:Nat):Value :=
 match Jo ops i t with
 | some j=>σ j
 | none=>a0.tmps.getD t undef
theorem Nj:∀{i t j:Nat},Jo ops i t=some j->j<i/\dstAt ops j=some t/\∀k,j<k->k<i->dstAt ops k≠some t:=by
 intro i
 induction i with
 | zero=>intro t j h;simp [Jo] at h
 | succ i ih =>
  intro t j h;simp only [Jo] at h;have rec_:Jo ops i t=some j->dstAt ops i≠some t->j<i+1/\dstAt ops j=some t/\∀k,j<k->k<i+1->dstAt ops k≠some t:=by
   intro h' b;obtain ⟨o,l,m⟩:=ih h';exact ⟨by omega,l,λk g c=>by
    rcases Nat.lt_or_ge k i with f|n
    ·exact m k g f
    ·have:k=i:=by omega
     rw [this];exact b⟩
  cases hd:dstAt ops i with
  | none=>rw [hd] at h;exact rec_ h (by rw [hd];simp)
  | some d =>
   rw [hd] at h;simp only at h
   cases hb:Nat.beq d t with
   | true =>
    rw [hb] at h;simp at h;subst h;rw [Nat.beq_eq] at hb;exact ⟨by omega,by rw [hd,hb],λk g c=>by omega⟩
   | false =>
    rw [hb] at h;simp at h;exact rec_ h (by rw [hd];intro e;cases e;simp at hb)
theorem S5:∀{i t:Nat},Jo ops i t=none->∀k,k<i->dstAt ops k≠some t:=by
 intro i
 induction i with
 | zero=>intro t _ k f;omega
 | succ i ih =>
  intro t h k f;simp only [Jo] at h;have rec_:Jo ops i t=none->dstAt ops i≠some t->dstAt ops k≠some t:=by
   intro h' b;rcases Nat.lt_or_ge k i with c|g
   ·exact ih h' k c
   ·have:k=i:=by omega
    rw [this];exact b
  cases hd:dstAt ops i with
  | none=>rw [hd] at h;exact rec_ h (by rw [hd];simp)
  | some d =>
   rw [hd] at h;simp only at h
   cases hb:Nat.beq d t with
   | true=>rw [hb] at h;simp at h
   | false=>rw [hb] at h;simp at h;exact rec_ h (by rw [hd];intro e;cases e;simp at hb)
def Ph (σ:Nat->Value) (i:Nat) (v:Value):Nat->Value:=λk=>if k=i then v else σ k
def OpGB (P:Program) (r:Option Nat) (ops:Array Oper) (o:Oper) (a:Act) (w:World) (R:Value->World->Prop) (B:List PanicEntry->World->Prop):Prop :=
 OpG P r ops o a w R\/(Region.wanted o (yielded ops a.tmps)=true/\∃f args w',(o.semAt r a.eval).run P w=.ok (.enter f args) w'/\Calls P f args w' (λe w''=>(∃v,e=.returned v/\R v w'')\/∃ch,e=.panicked ch/\B ch w''))
def A3f (P:Program) (r:Option Nat) (ops:Array Oper) (m N:Nat) (a0:Act) (B:List PanicEntry->World->Prop) (G:(Nat->Bool)->(Nat->Value)->World->Prop):Prop :=
 ∀(S:Nat->Bool) (σ:Nat->Value) (a:Act) (w:World) (i:Nat) (o:Oper),i<m->ops[i]? = some o->S i=false->(∀j,Anc ops j i->S j=true)->(∀j k,S k=true->Anc ops j k->S j=true)->(∀k,S k=true->k<m) ->
  a.tmps.size=N->a.defers=a0.defers->G S σ w->(∀t∈o.looksAt ops,a.tmps.getD t undef=M0 ops a0 σ i t)->OpGB P r ops o a w (λv w'=>G (λk=>S k||Nat.beq k i) (Ph σ i v) w') B
section
variable {B:List PanicEntry->World->Prop}
theorem OpGB.wpOpIn {o:Oper} {R:Value->World->Prop} {K:Act->World->Prop} (ho:ops[i]? = some o) (h:OpGB P r ops o a w R B)
  (c:∀v w',R v w'->K (a.put o.dst v) w') (hb:∀ch w',B ch w'->Q (.panic ch) a w'):wpOpIn (F0 r) 0 P ops Q i K a w:=by
 rcases h with h|⟨d,f,args,w',g,j⟩
 ·exact h.wpOpIn ho c
 ·unfold Go.wpOpIn;rw [ho];simp only [d,if_true];refine ⟨λ_ _=>trivial,?_⟩
  change o.uponIn (F0 r) 0 P a K Q ((o.semAt r a.eval).run P w)
  rw [g];refine ⟨λh=>by simp [F0,Fence.wide] at h,N6.2 (Calls.mono j ?_)⟩;rintro e w'' (⟨v,rfl,b⟩|⟨ch,rfl,b⟩)
  ·exact c v w'' b
  ·exact hb ch w'' b
theorem OpGB.mono {o:Oper} {R R':Value->World->Prop} (h:OpGB P r ops o a w R B) (b:∀v w',R v w'->R' v w'):OpGB P r ops o a w R' B:=by
 rcases h with h|⟨c,f,args,w',d,g⟩
 ·exact .inl (h.mono b)
 ·refine .inr ⟨c,f,args,w',d,Calls.mono g ?_⟩;rintro e w'' (⟨v,rfl,i⟩|h)
  ·exact .inl ⟨v,rfl,b _ _ i⟩
  ·exact .inr h
structure GInv (ops:Array Oper) (m:Nat) (a0:Act) (G:(Nat->Bool)->(Nat->Value)->World->Prop) (N:Nat) (S:Array Bool) (σ:Nat->Value) (a:Act) (w:World):Prop where
 ssz:S.size=ops.size
 low:∀i,S.getD i false=true->i<m
 closed:Closed ops S
 sz:a.tmps.size=N
 dfs:a.defers=a0.defers
 g:G (λk=>S.getD k false) σ w
 last:∀i d,S.getD i false=true->dstAt ops i=some d->(∀k,i<k->S.getD k false=true->dstAt ops k≠some d)->a.tmps.getD d undef=σ i
 base:∀t,(∀i,S.getD i false=true->dstAt ops i≠some t)->a.tmps.getD t undef=a0.tmps.getD t undef
theorem Pq {k:Nat} {d:Tmp} (h:dstAt ops k=some d):∃y,ops[k]? = some y/\y.dst=some d:=by
 unfold dstAt at h
 cases b:ops[k]? with
 | none=>rw [b] at h;simp at h
 | some y=>rw [b] at h;exact ⟨y,rfl,by simpa using h⟩
theorem Zl {m:Nat} {a0:Act} (d1:Av ops N=true) (d2:Nw ops m=true) (z:K8 ops m=true) (b0:Gc ops=true) (d9:m<=ops.size)
  (hB:∀ch a w,a.defers=a0.defers->B ch w->Q (.panic ch) a w) (c2:A3f P r ops m N a0 B G)
  (hK:∀a' w' σ,a'.tmps.size=N->a'.defers=a0.defers->G (λk=>Nat.blt k m) σ w'->(∀t,a'.tmps.getD t undef=M0 ops a0 σ m t)->WI P r ops Q m a' w') (hG:∀S S' σ w,(∀k,S k=S' k)->G S σ w->G S' σ w) :
  ∀(fuel:Nat) (S:Array Bool) (σ:Nat->Value) (a:Act) (w:World),GInv ops m a0 G N S σ a w->S.toList.count false<=fuel->wpAnyIn (F0 r) 0 P .any ops Q fuel S a w:=by
 have conf:∀{i j:Nat} {x y:Oper},i<j->j<m->ops[i]? = some x->ops[j]? = some y->((∃d,x.dst=some d/\d∈y.looksAt ops)\/(∃d,x.dst=some d/\y.dst=some d)\/(∃d,y.dst=some d/\d∈x.looksAt ops))->Anc ops i j:=by
  intro i j x y u hj hx hy hc;rcases Rz d2 u hj hx hy with h|h
  ·have hs:=Oper.apart_spec h;rcases hc with ⟨d,h1,h2⟩|⟨d,h1,h2⟩|⟨d,h1,h2⟩
   ·exact absurd h2 (hs.1 d h1)
   ·exact absurd h2 (hs.2.1 d h1)
   ·exact absurd h2 (hs.2.2 d h1)
  ·exact h
 have full:∀(S:Array Bool) (σ:Nat->Value) (a:Act) (w:World),GInv ops m a0 G N S σ a w->(∀i,i<m->S.getD i false=true)->WI P r ops Q m a w:=by
  intro S σ a w c f;refine hK a w σ c.sz c.dfs (hG _ _ σ w (λk=>?_) c.g) ?_
  ·by_cases s:k<m
   ·rw [f k s];exact (Nat.blt_eq.mpr s).symm
   ·have h1:S.getD k false=false:=by
     cases hb:S.getD k false with
     | false=>rfl
     | true=>exact absurd (c.low k hb) s
    have h2:Nat.blt k m=false:=by
     cases hb:Nat.blt k m with
     | false=>rfl
     | true=>exact absurd (Nat.blt_eq.mp hb) s
    rw [h1,h2]
  ·intro t;unfold M0
   cases hs:Jo ops m t with
   | some j =>
    obtain ⟨h1,h2,h3⟩:=Nj hs;exact c.last j t (f j h1) h2 (λk s p=>h3 k s (c.low k p))
   | none=>exact c.base t (λi hi=>S5 hs i (c.low i hi))
 intro fuel
 induction fuel with
 | zero =>
  intro S σ a w c d4;have f:∀i,i<ops.size->S.getD i false=true:=by
   intro i hi
   cases hb:S.getD i false with
   | true=>rfl
   | false =>
    have e2:S.getD i true=false:=by
     rw [Array.getD_eq_getD_getElem?] at hb ⊢;rw [Array.getElem?_eq_getElem (by rw [c.ssz];exact hi)] at hb ⊢
     simpa using hb
    have:=W9 (Nu e2);omega
  have c0:m=ops.size:=by
   rcases Nat.lt_or_ge m ops.size with h|h
   ·have:=c.low m (f m h);omega
   ·omega
  have hW:=full S σ a w c (λi hi=>f i (by omega));refine S9 b0 z 0 m S a w (Nat.le_refl _) c.ssz c.closed (λi=>?_) (by omega) (by omega) hW;exact ⟨λh=>⟨c.low i h,by have:=c.low i h;omega⟩,λh=>f i h.2⟩
 | succ fuel ih =>
  intro S σ a w c d4;refine ⟨λh0=>?_,λi hi=>?_⟩
  ·have f:=Rp b0 c.ssz h0;have c0:m=ops.size:=by
    rcases Nat.lt_or_ge m ops.size with h|h
    ·have:=c.low m (f m h);omega
    ·omega
   have hW:=full S σ a w c (λi hi=>f i (by omega));rw [c0] at hW
   simpa [WI,wpOpsIn] using hW
  ·obtain ⟨h0,o,ho,d8⟩:=mem_ready.1 hi;have b9:i<ops.size:=(Array.getElem?_eq_some_iff.1 ho).1;have b4:S.getD i false=false:=M8 h0
   by_cases c3:i<m
   ·have hd:dstAt ops i=o.dst:=by simp [dstAt,ho]
    have c4:∀t∈o.looksAt ops,a.tmps.getD t undef=M0 ops a0 σ i t:=by
     intro t ht;have later:∀k,i<k->S.getD k false=true->dstAt ops k≠some t:=by
      intro k s p e3;obtain ⟨y,hy,c5⟩:=Pq e3;have:=(conf s (c.low k p) ho hy (.inr (.inr ⟨t,c5,ht⟩))).listed c.closed p;rw [b4] at this;cases this
     unfold M0
     cases hs:Jo ops i t with
     | some j =>
      obtain ⟨h1,h2,h3⟩:=Nj hs;obtain ⟨x,hx,e4⟩:=Pq h2;have b2:=(conf h1 c3 hx ho (.inl ⟨t,e4,ht⟩)).ready c.closed hi;refine c.last j t b2 h2 (λk s p=>?_);rcases Nat.lt_trichotomy k i with q|q|q
      ·exact h3 k s q
      ·subst q;rw [b4] at p;cases p
      ·exact later k q p
     | none =>
      refine c.base t (λk p=>?_);rcases Nat.lt_trichotomy k i with q|q|q
      ·exact S5 hs k q
      ·subst q;rw [b4] at p;cases p
      ·exact later k q p
    refine (c2 (λk=>S.getD k false) σ a w i o c3 ho b4 (λj hj=>hj.ready c.closed hi) (λj k s hj=>hj.listed c.closed s) (λk s=>c.low k s) c.sz c.dfs c.g c4).wpOpIn ho ?_ (λch w' hb=>hB ch a w' c.dfs hb);intro v w' hg;refine ih _ (Ph σ i v) _ _ ?_ ?_
    ·refine ⟨by simp [c.ssz],λj hj=>?_,c.closed.set hi,by rw [Pc];exact c.sz,by rw [Lw];exact c.dfs,hG _ _ _ _ (λk=>?_) hg,?_,?_⟩
     ·by_cases u:i=j
      ·subst u;exact c3
      ·rw [getD_set_ne false u] at hj;exact c.low j hj
     ·by_cases c6:i=k
      ·subst c6;rw [Hv (by rw [c.ssz];exact b9)];simp
      ·rw [getD_set_ne false c6];have:Nat.beq k i=false:=by
        cases hb:Nat.beq k i with
        | false=>rfl
        | true=>rw [Nat.beq_eq] at hb;exact absurd hb.symm c6
       rw [this,Bool.or_false]
     ·intro j d b2 b5 b6
      by_cases u:i=j
      ·subst u;rw [hd] at b5;rw [b5,Qs (by rw [c.sz];exact Lp d1 ho b5)];simp [Ph]
      ·rw [getD_set_ne false u] at b2;have c7:o.dst≠some d:=by
        intro d5;rcases Nat.lt_or_ge j i with d6|d6
        ·exact b6 i d6 (Hv (by rw [c.ssz];exact b9)) (by rw [hd];exact d5)
        ·obtain ⟨y,hy,c5⟩:=Pq b5;have:=(conf (show i<j by omega) (c.low j b2) ho hy (.inr (.inl ⟨d,d5,c5⟩))).listed c.closed b2;rw [b4] at this;cases this
       rw [Lx c7,c.last j d b2 b5 (λk s p=>b6 k s (getD_set_true p))];simp [Ph,Ne.symm u]
     ·intro t b7;have c7:o.dst≠some t:=λe=>b7 i (Hv (by rw [c.ssz];exact b9)) (by rw [hd];exact e);rw [Lx c7];exact c.base t (λk s=>b7 k (getD_set_true s))
    ·have h1:=Wa S.toList i (Nu h0);have h2:(S.setIfInBounds i true).toList=S.toList.set i true:=by simp
     rw [h2];omega
   ·have f:∀j,j<i->S.getD j false=true:=λj hj=>(Qw z (by omega) b9 hj).ready c.closed hi;have f0:i=m:=by
     rcases Nat.lt_or_ge m i with h|h
     ·have:=c.low m (f m h);omega
     ·omega
    have hW:=full S σ a w c (λj hj=>f j (by omega));have c8:∀j,S.getD j false=true↔j<m/\j<ops.size:=λj=>⟨λh=>⟨c.low j h,by have:=c.low j h;omega⟩,λh=>f j (by omega)⟩;have e5:ops.size<=m+(fuel+1):=by
     have:∀(n k:Nat) (l:List Bool),l.length=n->(∀j,k<=j->j<n->l[j]? = some false)->n<=k+l.count false:=by
      intro n
      induction n with
      | zero=>intro k l _ _;omega
      | succ n ihn =>
       intro k l hl hf
       cases l with
       | nil=>simp at hl
       | cons b l =>
        cases k with
        | zero =>
         have d7:=hf 0 (Nat.le_refl _) (by omega);simp at d7;subst d7;have:=ihn 0 l (by simpa using hl) (λj _ hj=>by simpa using hf (j+1) (by omega) (by omega));simp;omega
        | succ k =>
         have:=ihn k l (by simpa using hl) (λj hj c9=>by simpa using hf (j+1) (by omega) (by omega));have f5:l.count false<=(b::l).count false:=by cases b<;>simp
         omega
     have:=this ops.size m S.toList (by simpa using c.ssz) (λj hj c9=>by
      have c1:¬S.getD j false=true:=λh=>by have:=c.low j h;omega
      rw [Array.getElem?_toList];rw [Array.getD_eq_getD_getElem?,Array.getElem?_eq_getElem (by rw [c.ssz];exact c9)] at c1;rw [Array.getElem?_eq_getElem (by rw [c.ssz];exact c9)]
      simpa using c1)
     omega
    exact (S9 b0 z (fuel+1) m S a w (Nat.le_refl _) c.ssz c.closed c8 e5 d9 hW).2 i hi
theorem Xf {id m:Nat} (p:P.follows .mixedOrders=true) (l:Av ops N=true) (n:Nw ops m=true) (c:K8 ops m=true)
  (f:Gc ops=true) (q:m<=ops.size) (u:∀ch a' w,a'.defers=a.defers->B ch w->Q (.panic ch) a' w) (g:A3f P r ops m N a B G) (v:a.tmps.size=N) (s:∀S S' σ w,(∀k,S k=S' k)->G S σ w->G S' σ w) (σ0:Nat->Value) (h0:G (λ_=>false) σ0 { w with drawn:=w.drawn+1 })
  (x:∀a' w' σ,a'.tmps.size=N->a'.defers=a.defers->G (λk=>Nat.blt k m) σ w'->(∀t,a'.tmps.getD t undef=M0 ops a σ m t)->WI P r ops Q m a' w'):WP P r (.region id ops true) Q a w:=by
 refine wpIn_region_any p ?_;have b:∀i,(Array.replicate ops.size false).getD i false=false:=by
  intro i
  cases hb:(Array.replicate ops.size false).getD i false with
  | false=>rfl
  | true =>
   have:=Q9 hb;simp at this;simp [this] at hb
 have j:∀i,¬(Array.replicate ops.size false).getD i false=true:=λi h=>by rw [b i] at h;cases h
 refine Zl l n c f q u g x s ops.size _ σ0 a _ ⟨by simp,λi h=>absurd h (j i),λi o e h=>absurd h (j i),v,rfl,s _ _ _ _ (λk=>(b k).symm) h0,λi d h=>absurd h (j i),λt _=>rfl⟩ ?_;refine Nat.le_trans List.count_le_length ?_;simp
end
section
variable {ch:List Nat} {vals:List Value}
structure Tok where
 prod:Option Nat
 cons:Option Nat
 res:Value->Res
def Tok.at (k:Tok) (σ:Nat->Value):Res:=match k.prod with|some p=>k.res (σ p)|none=>k.res undef
end
section
variable {F:List Res} {e sz n:Nat} {l':List α} {o:Oper} {c:Nat}
end
section
variable {F:List Res} {R S:Res} {e sz n cap:Nat}
end
structure SlV where
 ad:Option Addr
 n:Nat
 cap:Nat
instance:Inhabited SlV:=⟨⟨none,0,0⟩⟩
def Res.both (R S:Res):Res where
 foot:=λb=>R.foot b\/S.foot b
 holds:=λw=>R.holds w/\S.holds w
 loc:=λw w' h hb=>⟨R.loc w w' (λb hk=>h b (.inl hk)) hb.1,S.loc w w' (λb hk=>h b (.inr hk)) hb.2⟩
 lt:=λw b hb hk=>hk.elim (R.lt w b hb.1) (S.lt w b hb.2)
def Res.none:Res where
 foot:=λ_=>False
 holds:=λ_=>True
 loc:=λ_ _ _ h=>h
 lt:=λ_ _ _ h=>h.elim
section
variable {R S:Res}
theorem St.both (h:St w0 (R::S::H) w):St w0 (R.both S::H) w:=by
 have e:=List.pairwise_cons.1 h.apart;have d:=List.pairwise_cons.1 e.2;refine ⟨h.ext,λT c=>?_,λT c b hb=>?_,List.pairwise_cons.2 ⟨λT c b hb=>?_,d.2⟩⟩
 ·rcases List.mem_cons.1 c with rfl|c
  ·exact ⟨h.holds _ (by simp),h.holds _ (by simp)⟩
  ·exact h.holds T (by simp [c])
 ·rcases List.mem_cons.1 c with rfl|c
  ·rcases hb with hb|hb
   ·exact h.low R (by simp) b hb
   ·exact h.low S (by simp) b hb
  ·exact h.low T (by simp [c]) b hb
 ·rcases hb with hb|hb
  ·exact e.1 T (by simp [c]) b hb
  ·exact d.1 T c b hb
structure Made (w w':World) (R:Res):Prop where
 holds:R.holds w'
 foot:∀b,R.foot b->w.heap.size<=b
theorem Made.of (h:St w H w0) (hi:H[i]? = some R):Made w w0 R:=⟨h.holds _ (List.mem_of_getElem? hi),h.low _ (List.mem_of_getElem? hi)⟩
theorem St.res (h:St w0 H w) (hi:H[i]? = some R):R.holds w:=h.holds _ (List.mem_of_getElem? hi)
theorem St.pick (is:List Nat) (m:is.Nodup) (h:St w0 H w):St w0 (is.filterMap λi=>H[i]?) w:=by
 have g:∀R,R∈is.filterMap (λi=>H[i]?)->R∈H:=λR c=>by
  obtain ⟨i,_,hi⟩:=List.mem_filterMap.1 c;exact List.mem_of_getElem? hi
 refine ⟨h.ext,λR c=>h.holds R (g R c),λR c=>h.low R (g R c),?_⟩;rw [List.pairwise_filterMap];refine m.imp ?_;intro i j d R c S n b k l;have hi:=List.getElem?_eq_some_iff.1 c;have hj:=List.getElem?_eq_some_iff.1 n;rcases Nat.lt_or_gt_of_ne d with e|f
 ·have:=List.pairwise_iff_getElem.1 h.apart i j hi.1 hj.1 e b;rw [hi.2,hj.2] at this;exact this k l
 ·have:=List.pairwise_iff_getElem.1 h.apart j i hj.1 hi.1 f b;rw [hi.2,hj.2] at this;exact this l k
theorem St.madeL {w':World} {H':List Res} (h:St w0 H w) (d:St w H' w'):St w0 (H'++H) w':=by
 have h':=h.later d.ext;refine ⟨h'.ext,λT c=>?_,λT c b hb=>?_,List.pairwise_append.2 ⟨d.apart,h'.apart,λU f T c b hb e=>?_⟩⟩
 ·rcases List.mem_append.1 c with c|c
  ·exact d.holds T c
  ·exact h'.holds T c
 ·rcases List.mem_append.1 c with c|c
  ·exact Nat.le_trans h.ext.size (d.low T c b hb)
  ·exact h'.low T c b hb
 ·have:=T.lt w b (h.holds T c) e;have:=d.low U f b hb;omega
end
def Ck (b:Nat) (o:Obj):Res where
 foot:=λk=>k=b
 holds:=λw=>w.heap[b]? = some o
 loc:=λw w' h hb=>(h b rfl).trans hb
 lt:=λw k hb hk=>by subst hk;exact (Array.getElem?_eq_some_iff.1 hb).1
section
theorem St.putObj {b:Nat} {o:Obj} (o':Obj) (h:St w0 H w) (hi:H[i]? = some (Ck b o)):St w0 (H.set i (Ck b o')) (w.putObj b o'):=by
 have hb:w.heap[b]? = some o:=h.res hi;refine h.upd hi rfl rfl rfl (by simp [World.putObj]) (λk _ c=>World.putObj_heap_other (λe=>c e)) ?_ (λk c=>.inl c);exact World.putObj_heap_same (Array.getElem?_eq_some_iff.1 hb).1
theorem St.allocObj (o:Obj) (h:St w0 H w):St w0 (Ck w.heap.size o::H) (w.alloc o) :=
 h.push ((Below.refl _ w).alloc (Nat.le_refl _) o) (World.alloc_heap_new w o) (λb hb=>by rw [show b=w.heap.size from hb];exact Nat.le_refl _)
def Yields (P:Program) (l:Nat) (args:Array Value) (w:World) (R:Bool->World->Prop):Prop :=
 ∃f tmps assign body,(Instr.yield l args).run P w=.ok (.round l f tmps assign body) w/\RoundIn (F0 none) 0 P l f tmps assign body w (λe w'=>∃b,e=.returned (.bool b)/\R b w')
end
structure YieldAt (P:Program) (ops:Array Oper) (k:Nat) (M:List (Nat×Value)) (l:Nat) (args:Array Value):Prop where
 eq:((plainAt ops k M).bind λo=>match o.op with|.call c=>(match pureSem P (resolve (rhoE (ofM M)) c o.type) with|some d=>(match d.target with|.fn (.yield l) _=>some (l,d.args)|_=>none)|_=>none)|_=>none)=some (l,args)
section
theorem Xo {k:Nat} (k':Nat) (M':Bool->List (Nat×Value)) {l:Nat} {R:Bool->World->Prop} (u:Fr N ds M a) (m:Av ops N=true) (g:YieldAt P ops k M l args) (v:Yields P l args w R)
  (x:∀b,NextM ops k M (.bool b) (M' b)) (y:k+1=k') (next:∀b w' a',R b w'->Fr N ds (M' b) a'->WI P none ops Q k' a' w'):WI P none ops Q k a w:=by
 have g:=g.eq
 cases q:plainAt ops k M with
 | none=>rw [q] at g;simp at g
 | some o =>
  rw [q] at g;simp only [Option.bind_some] at g;obtain ⟨s,z,h3⟩:=La (r:=none) q u;obtain ⟨f,tmps,assign,body,n,i⟩:=v;have j:(execOp (rhoE (ofM M)) o).run P w=.ok (.round l f tmps assign body) w:=by
   split at g
   ·rename_i c t
    split at g
    ·rename_i d hd
     split at g
     ·rename_i l' cap p
      simp only [Option.some.injEq,Prod.mk.injEq] at g;obtain ⟨rfl,rfl⟩:=g;unfold execOp;rw [t];simp only [Sem.run_bind,Bs _ _ hd w,Result.andThen];unfold invoke;rw [p];exact n
     ·simp at g
    ·simp at g
   ·simp at g
  have hi:k<ops.size:=(Array.getElem?_eq_some_iff.1 s).1;have e:List.range' k (ops.size-k)=k::List.range' (k+1) (ops.size-(k+1)):=by
   rw [show ops.size-k=(ops.size-(k+1))+1 by omega,List.range'_succ]
  unfold WI;rw [e,wpOpsIn_cons];unfold Go.wpOpIn;rw [s];simp only;rw [if_pos z];refine ⟨λ_ _=>trivial,?_⟩
  change o.uponIn (F0 none) 0 P a _ Q ((o.semAt none a.eval).run P w)
  rw [h3,j,Oper.uponIn_round];refine ⟨λh=>by simp [F0,Fence.wide] at h,RoundIn.mono i ?_⟩;rintro e w' ⟨b,rfl,hR⟩;have:=next b w' _ hR (Lu s m u (x b))
  rw [←y] at this;exact this
def A71 (a:Act) (ps:Array Tmp) (assign body:Code) (D:Nat) (fn:FuncId) (s:LoopState) (pe:Option Code):Obj:=.loop { state:=s,pending:=pe,fn,tmps:=a.tmps,params:=ps,assign,body,defers:=D }
theorem Z2:∀(zs:List (Nat×Value)) (t:Array Value),(zs.foldl (λt p=>t.setIfInBounds p.1 p.2) t).size=t.size:=by
 intro zs
 induction zs with
 | nil=>intro t;rfl
 | cons z zs ih=>intro t;rw [List.foldl_cons,ih];simp
theorem Sq:∀{M1 M2:List (Nat×Value)} {t:Nat},lookM (M1++M2) t=(lookM M1 t).or (lookM M2 t):=by
 intro M1
 induction M1 with
 | nil=>intro M2 t;simp [lookM]
 | cons p M1 ih =>
  intro M2 t;obtain ⟨k,v⟩:=p;simp only [List.cons_append,lookM,ih]
  cases Nat.beq k t<;>simp
theorem A0j:∀(zs:List (Nat×Value)) (t:Array Value) (i:Nat) (v:Value),(∀p∈zs,p.1<t.size)->(lookM zs.reverse i=some v->(zs.foldl (λt p=>t.setIfInBounds p.1 p.2) t).getD i undef=v)/\(lookM zs.reverse i=none->(zs.foldl (λt p=>t.setIfInBounds p.1 p.2) t).getD i undef=t.getD i undef):=by
 intro zs
 induction zs with
 | nil=>intro t i v _;exact ⟨λh=>by simp [lookM] at h,λ_=>rfl⟩
 | cons z zs ih =>
  intro t i v d;obtain ⟨k,u⟩:=z;have j:k<t.size:=d (k,u) (List.mem_cons_self ..);have ih':=ih (t.setIfInBounds k u) i v (λp f=>by rw [Array.size_setIfInBounds];exact d p (List.mem_cons_of_mem _ f));have b:(t.setIfInBounds k u).getD i undef=if k=i then u else t.getD i undef:=by
   simp only [Array.getD_eq_getD_getElem?,Array.getElem?_setIfInBounds]
   split
   ·rename_i e;subst e;simp
   ·rfl
  rw [List.foldl_cons,List.reverse_cons,Sq];have c:lookM [(k,u)] i=if k=i then some u else none:=by
   simp only [lookM]
   by_cases e:k=i
   ·subst e;simp
   ·rw [if_neg e,show Nat.beq k i=false from by rw [←Bool.not_eq_true,Nat.beq_eq];exact e];rfl
  rw [c]
  cases g:lookM zs.reverse i with
  | some v' =>
   constructor
   ·intro h;simp at h;subst h;exact ((ih (t.setIfInBounds k u) i v' (λp f=>by rw [Array.size_setIfInBounds];exact d p (List.mem_cons_of_mem _ f))).1 g)
   ·intro h;simp at h
  | none =>
   have:=ih'.2 g;rw [this,b];constructor
   ·intro h;simp only [Option.none_or] at h
    split at h
    ·rename_i e;rw [if_pos e];simpa using h
    ·simp at h
   ·intro h;simp only [Option.none_or] at h
    split at h
    ·simp at h
    ·rename_i e;rw [if_neg e]
def A9c (w0:World) (l:Nat) (rec:LoopState->Option Code->Obj) (R:Bool->World->Prop):Exit->Act->World->Prop
 | .normal,_,w=>∃Hy,St w0 (Ck l (rec .busy none)::Hy) w/\∀w',St w0 (Ck l (rec .ready none)::Hy) w'->R true w'
 | .ret,_,w=>∃Hy,St w0 (Ck l (rec .busy none)::Hy) w/\∀w',St w0 (Ck l (rec .done (some .ret))::Hy) w'->R false w'
 | .exit id,_,w=>∃Hy,St w0 (Ck l (rec .busy none)::Hy) w/\∀w',St w0 (Ck l (rec .done (some (.exit id)))::Hy) w'->R false w'
 | _,_,_=>False
theorem A0g {l D:Nat} {fn:FuncId} {ps:Array Tmp} {assign body:Code} {R:Bool->World->Prop} {Hx:List Res} {b0:Act} {rec:LoopState->Option Code->Obj} (g:rec=A71 b0 ps assign body D fn) (zs:List (Nat×Value)) (M1:List (Nat×Value)) (n:Fr N ds M b0) (y:(ps.zip args).toList=zs) (o:args.size=ps.size)
  (r:(zs.all λp=>Nat.blt p.1 N)=true) (s:M1.map (λp=>lookM (zs.reverse++M) p.1)=M1.map (λp=>some p.2)) (z:St w0 (Ck l (rec .ready none)::Hx) w)
  (h:∀a0,Fr N [] M1 a0->WP P (some l) assign (Exit.then (λa1 w1=>∃Hy,St w0 (Ck l (rec .ready none)::Hy) w1/\∀w2,St w0 (Ck l (rec .busy none)::Hy) w2->WP P (some l) body (A9c w0 l rec R) a1 w2) (λ_ _ _=>False)) a0 w) :
  Yields P l args w R:=by
 subst g;have hl:=z.res (i:=0) rfl;refine ⟨fn,_,assign,body,run_yield (P:=P) hl o,roundIn_of_wpIn (F:=F0 none) trivial ?_⟩;have u:Fr N [] M1 { tmps:=(ps.zip args).foldl (λt (p,v)=>t.setIfInBounds p v) b0.tmps,defers:=[] }:=by
  have e:(ps.zip args).foldl (λt (p,v)=>t.setIfInBounds p v) b0.tmps=zs.foldl (λt p=>t.setIfInBounds p.1 p.2) b0.tmps:=by
   rw [←Array.foldl_toList,y]
  rw [e];refine ⟨by rw [Z2];exact n.size,rfl,λp hp=>?_⟩;have d:=List.map_inj_left.1 s p hp;have hb:∀q∈zs,q.1<b0.tmps.size:=λq d=>by rw [n.size];exact Nat.blt_eq.mp (List.all_eq_true.1 r q d)
  have x:=A0j zs b0.tmps p.1 p.2 hb;rw [Sq] at d
  cases m:lookM zs.reverse p.1 with
  | some v=>rw [m] at d;simp at d;subst d;exact x.1 m
  | none=>rw [m] at d;simp at d;rw [show (({ tmps:=zs.foldl (λt p=>t.setIfInBounds p.1 p.2) b0.tmps,defers:=[] }:Act).tmps.getD p.1 undef)=_ from x.2 m];exact n.get d
 refine wpIn_mono (h _ u) ?_;intro e a1 w1 d
 cases e with
 | normal =>
  obtain ⟨Hy,j,hb⟩:=d;refine ⟨_,run_beginRound (P:=P) (j.res (i:=0) rfl) rfl,?_⟩;refine wpIn_mono (hb _ (j.putObj (i:=0) _ rfl)) ?_;intro e a2 w2 f
  cases e with
  | normal =>
   obtain ⟨Hz,b,k⟩:=f;exact ⟨_,_,run_endRound (P:=P) none (b.res (i:=0) rfl),true,rfl,k _ (b.putObj (i:=0) _ rfl)⟩
  | ret =>
   obtain ⟨Hz,b,k⟩:=f;exact ⟨_,_,run_endRound (P:=P) (some .ret) (b.res (i:=0) rfl),false,rfl,k _ (b.putObj (i:=0) _ rfl)⟩
  | exit id =>
   obtain ⟨Hz,b,k⟩:=f;exact ⟨_,_,run_endRound (P:=P) (some (.exit id)) (b.res (i:=0) rfl),false,rfl,k _ (b.putObj (i:=0) _ rfl)⟩
  | goto t=>exact f.elim
  | panic c=>exact f.elim
  | outgrown=>exact f.elim
 | ret=>exact d.elim
 | exit id=>exact d.elim
 | goto t=>exact d.elim
 | panic c=>exact d.elim
 | outgrown=>exact d.elim
def Hb (Ds:List Nat):List Deferred:=Ds.map λD=>⟨.collected D,#[]⟩
def Bw (Ds:List Nat):Res where
 foot:=λk=>k∈Ds
 holds:=λw=>Ds.Nodup/\∀D∈Ds,w.heap[D]? = some (.deferred (some []))
 loc:=λ_w _w' h hb=>⟨hb.1,λD hD=>(h D hD).trans (hb.2 D hD)⟩
 lt:=λ_w k hb hk=>(Array.getElem?_eq_some_iff.1 (hb.2 k hk)).1
theorem St.mark {D:Nat} {Ds:List Nat} (h:St w0 (Ck D (.deferred (some []))::Bw Ds::H) w):St w0 (Bw (D::Ds)::H) w:=by
 have d:=List.pairwise_cons.1 h.apart;refine h.both.conv ⟨List.nodup_cons.2 ⟨λe=>d.1 (Bw Ds) (by simp) D rfl e,(h.res (i:=1) rfl).1⟩,λE c=>?_⟩ (λb hb=>?_)
 ·rcases List.mem_cons.1 c with rfl|c
  ·exact h.res (i:=0) rfl
  ·exact (h.res (i:=1) rfl).2 E c
 ·rcases List.mem_cons.1 hb with rfl|hb
  ·exact .inl rfl
  ·exact .inr hb
theorem St.noMarks (h:St w0 H w):St w0 (Bw []::H) w:=h.push (Ext.refl w) ⟨List.nodup_nil,λ_ h=>by simp at h⟩ (λ_ hb=>by simp [Bw] at hb)
theorem A28 {f:FuncId} {fn:Func} {c:Code} (e:P.funcs[f]? = some fn) (hb:fn.body=some c) (N:Nat) (M:List (Nat×Value)) (d:fn.ntmps=N)
  (b:Nat.ble args.size N=true) (g:M.map (λp=>(args++Array.replicate (N-args.size) undef).getD p.1 undef)=M.map Prod.snd) (h:∀a,Fr N (Hb []) M a->WP P none c (bodyPostM (F0 none) 0 P fn R) a w):Calls P f args w R:=by
 refine N6 (r:=none) (n:=0) |>.1 (callsIn_of_wp_marks e hb trivial ?_ rfl);refine h _ ⟨?_,rfl,λp i=>?_⟩
 ·have:=Nat.le_of_ble_eq_true b;simp [d];omega
 ·rw [d];exact List.map_inj_left.1 g p i
theorem A6m {fn:Func} {tmps:Array Value} :∀(Ds:List Nat) (w:World) (H:List Res),St w0 (Bw Ds::H) w->(∀w',St w0 H w'->∃v,(results fn tmps).run P w'=.ok v w'/\R (.returned v) w') ->
  LeavesInM (F0 none) 0 P fn tmps R (Hb Ds) .returning w:=by
 intro Ds
 induction Ds with
 | nil=>intro w H c h;exact h w c.drop1
 | cons D Ds ih =>
  intro w H c h;have d:=c.res (i:=0) rfl;have l:w.heap[D]? = some (.deferred (some [])):=d.2 D (List.mem_cons_self ..);refine ⟨by simp,.inl ⟨D,_,rfl,run_takeDeferred l,ih _ H ?_ h⟩⟩;have b:=List.nodup_cons.1 d.1;refine c.upd (i:=0) (R':=Bw Ds) rfl rfl rfl rfl (by simp [World.putObj]) (λk _ f=>World.putObj_heap_other (λe=>f (by rw [e];exact List.mem_cons_self ..))) ⟨b.2,λE j=>?_⟩ (λk f=>.inl (List.mem_cons_of_mem _ f));have g:E≠D:=λe=>b.1 (e▸j);rw [World.putObj_heap_other g];exact d.2 E (List.mem_cons_of_mem _ j)
theorem R6 {fn:Func} {Ds:List Nat} (rs:List ResultVar) (vs:List Value) (d:Fr N (Hb Ds) M a) (f:St w0 (Bw Ds::H) w) (b:fn.results=rs.toArray)
  (h:∀w',St w0 H w'->W3 P w' M rs vs/\R (.returned (match vs with|[v]=>v|_=>.tuple vs.toArray)) w'):bodyPostM (F0 none) 0 P fn R .ret a w:=by
 show LeavesInM (F0 none) 0 P fn a.tmps R a.defers .returning w;rw [d.defers];refine A6m Ds w H f λw' c=>?_;obtain ⟨g,i⟩:=h w' c;refine ⟨_,?_,i⟩;have j:=Wn (a:=a) rs vs g d;have e:results fn a.tmps=(do let vs ←fn.results.mapM (Tr a.tmps);pure (if h:vs.size=1 then vs[0] else .tuple vs)):=by
  unfold results
  congr 1
 rw [e,b,List.mapM_toArray];simp [j];rcases vs with _|⟨v,_|⟨u,vs⟩⟩<;>simp
structure SkipAt (ops:Array Oper) (k:Nat) (M:List (Nat×Value)):Prop where
 eq:((ops[k]?).bind (·.guard)).bind (guardIs ops M)=some false
theorem A5k {k:Nat} (k':Nat) (M':List (Nat×Value)) (e:Fr N ds M a) (c:Av ops N=true) (b:SkipAt ops k M) (f:NextM ops k M undef M') (i:k+1=k')
  (next:∀a',Fr N ds M' a'->WI P r ops Q k' a' w):WI P r ops Q k a w:=by
 have b:=b.eq
 cases ho:ops[k]? with
 | none=>rw [ho] at b;simp at b
 | some o =>
  rw [ho] at b;simp only [Option.bind_some] at b
  cases d:o.guard with
  | none=>rw [d] at b;simp at b
  | some g =>
   rw [d] at b;simp only [Option.bind_some] at b;have j:=Sk b e;refine WI.cons (R:=λv w'=>v=undef/\w'=w) ho ?_ ?_
   ·unfold OpG;have:Region.wanted o (yielded ops a.tmps)=false:=by simp only [Region.wanted,d];exact j
    rw [this];exact ⟨rfl,rfl⟩
   ·rintro v w' ⟨rfl,rfl⟩;rw [i];exact next _ (Lu ho c e f)
theorem St.pickT {A T:List Res} (is:List Nat) (f:is.Nodup) (h:St w0 (A++T) w):St w0 ((is.filterMap λi=>A[i]?)++T) w:=by
 have d:∀R,R∈is.filterMap (λi=>A[i]?)->R∈A:=λR b=>by
  obtain ⟨i,_,hi⟩:=List.mem_filterMap.1 b;exact List.mem_of_getElem? hi
 have c:∀R,R∈is.filterMap (λi=>A[i]?)++T->R∈A++T:=λR b=>by
  rcases List.mem_append.1 b with b|b
  ·exact List.mem_append_left _ (d R b)
  ·exact List.mem_append_right _ b
 have e:=List.pairwise_append.1 h.apart;have g:St w0 A w:=h.sub (List.sublist_append_left ..);exact ⟨h.ext,λR b=>h.holds R (c R b),λR b=>h.low R (c R b),List.pairwise_append.2 ⟨(g.pick is f).apart,e.2.1,λR b S j=>e.2.2 R (d R b) S j⟩⟩
theorem St.sA {A T:List Res} {R:Res} (h:St w0 (A++R::T) w):St w0 (R::(A++T)) w:=h.perm List.perm_middle
theorem St.dA {A T:List Res} {R:Res} (h:St w0 (A++R::T) w):St w0 (A++T) w:=h.sub (List.Sublist.append_left (List.sublist_cons_self ..) A)
section
variable {a b c d e f g i j k l m n o p:Res} {T:List Res}
theorem St.d0 (h:St w0 (a::T) w):St w0 (T) w:=h.dA (A:=[])
theorem St.s1 (h:St w0 (a::b::T) w):St w0 (b::a::T) w:=h.sA (A:=[a])
theorem St.d1 (h:St w0 (a::b::T) w):St w0 (a::T) w:=h.dA (A:=[a])
theorem St.s2 (h:St w0 (a::b::c::T) w):St w0 (c::a::b::T) w:=h.sA (A:=[a,b])
theorem St.d2 (h:St w0 (a::b::c::T) w):St w0 (a::b::T) w:=h.dA (A:=[a,b])
theorem St.s3 (h:St w0 (a::b::c::d::T) w):St w0 (d::a::b::c::T) w:=h.sA (A:=[a,b,c])
theorem St.d3 (h:St w0 (a::b::c::d::T) w):St w0 (a::b::c::T) w:=h.dA (A:=[a,b,c])
theorem St.s4 (h:St w0 (a::b::c::d::e::T) w):St w0 (e::a::b::c::d::T) w:=h.sA (A:=[a,b,c,d])
theorem St.d4 (h:St w0 (a::b::c::d::e::T) w):St w0 (a::b::c::d::T) w:=h.dA (A:=[a,b,c,d])
theorem St.s5 (h:St w0 (a::b::c::d::e::f::T) w):St w0 (f::a::b::c::d::e::T) w:=h.sA (A:=[a,b,c,d,e])
theorem St.s6 (h:St w0 (a::b::c::d::e::f::g::T) w):St w0 (g::a::b::c::d::e::f::T) w:=h.sA (A:=[a,b,c,d,e,f])
theorem St.s7 (h:St w0 (a::b::c::d::e::f::g::i::T) w):St w0 (i::a::b::c::d::e::f::g::T) w:=h.sA (A:=[a,b,c,d,e,f,g])
end
end
end Go.Eng
