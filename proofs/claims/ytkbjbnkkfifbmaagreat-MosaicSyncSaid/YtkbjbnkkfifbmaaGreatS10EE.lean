import Derived.Test.YtkbjbnkkfifbmaaGreatS10EA
import Derived.RangeFuncRecord
import Derived.RangeFuncLeaves
set_option linter.unusedVariables false
set_option linter.unusedSimpArgs false
set_option linter.unusedSectionVars false
namespace Go.Eng
open Go Go.RowKit
def Arr {α:Type} (w:World) (sz:Nat) (f:α→List Value) (ad:Option Addr) (n cap:Nat) (l:List α):Prop:=l.length=n∧Sl w sz (.slice ad n cap) n (l.flatMap f)
def At (ad:Option Addr) (i:Int) (sz:Nat):Addr:=(ad.getD default).add (i.toNat*sz)
def Cs (ad:Option Addr) (m l sz:Nat):Option Addr:=if m=l then ad else ad.map (·.add (l*sz))
def arr {α:Type} (e sz:Nat) (f:α→List Value) (ad:Option Addr) (n cap:Nat) (l:List α):Res where
 foot:=fun k=>(Value.slice ad n cap).ownBlock=some k
 holds:=fun w=>l.length=n∧w.ownsRow 0 e sz (.slice ad n cap) n (l.flatMap f)
 loc:=fun w w' h hb=>⟨hb.1,(vec (.slice ad n cap) e sz n (l.flatMap f)).loc w w' h hb.2⟩
 lt:=fun _ k hb hk=>(hb.2.lt k hk).2
section
variable {P:Program} {w w':World} {α:Type} {sz n cap:Nat} {f:α→List Value} {ad:Option Addr} {l:List α} {cs:List Cd}
theorem Arr.nil:Arr w sz f none 0 0 ([]:List α):=⟨rfl,Sl.nil w sz⟩
theorem Arr.len (h:Arr w sz f ad n cap l):l.length=n:=h.1
theorem Arr.le (h:Arr w sz f ad n cap l):n≤cap∧cap≤9223372036854775807:=by
 obtain ⟨_,ad',cap',e,_,h3,h4,_⟩:=h
 cases e
 simp only [maxLen] at h4;exact ⟨h3,by omega⟩
theorem Arr.cells (hf:∀x,(f x).length=sz) (h:Arr w sz f ad n cap l) {i:Int} (h0:0≤i) (hi:i<n) (d:α):∃a,ad=some a∧∀j u,(f (l.getD i.toNat d))[j]? = some u→w.cell? ((At ad i sz).add j)=some u:=by
 obtain ⟨hl,ad',cap',e,_,_,_,h5⟩:=h
 cases e
 obtain ⟨a,rfl,_,h8⟩:=h5 (by omega);have hlt:i.toNat<l.length:=by omega
 have hg:l[i.toNat]? = some (l.getD i.toNat d):=by rw [List.getD_eq_getElem?_getD,List.getElem?_eq_getElem hlt];rfl
 refine ⟨a,rfl,fun j u hu=>?_⟩;have hj:j<sz:=by have:=(List.getElem?_eq_some_iff.1 hu).1;rw [hf] at this;exact this
 have:=h8 (i.toNat*sz+j) u (by rw [Mx hf l i.toNat j _ hg hj];exact hu);show w.cell? ((a.add (i.toNat*sz)).add j)=some u;rw [Mo];exact this
theorem A62 {T:World→World→Prop} {D:World→Prop} {t:Nat} {i:Int} (h:Arr w sz f ad n cap l) (ht:K5 P t sz=true) (hb:B8 cs=true→0≤i∧i<n) :
  Ob.ok P T D (.run cs (Instr.indexAt t (.slice ad n cap) (.int .i64 i)) (.pointer (some (At ad i sz)))):=by
 intro hk w' _;obtain ⟨h0,hi⟩:=hb hk;obtain ⟨_,ad',cap',e,_,_,_,h5⟩:=h
 cases e
 obtain ⟨a,rfl,_,_⟩:=h5 (by omega);obtain ⟨e',inf,hu,hinf,hs⟩:=Nm ht;simp [Instr.indexAt,asIntOf,run_underlying hu,sizeOf,typeInfo,hinf,hs,h0,hi,At]
theorem Tu {t lo hi mx:Nat} {vlo vhi vmx:Option Value} (ht:K5 P t sz=true) (hb:∀w,(Instr.sliceBounds true n cap vlo vhi vmx).run P w=.ok (lo,hi,mx) w) (w:World) :
  (Instr.sliceAt t (.slice ad n cap) vlo vhi vmx).run P w=.ok (.slice (Cs ad mx lo sz) (hi-lo) (mx-lo)) w:=by
 obtain ⟨e',inf,hu,hinf,hs⟩:=Nm ht;simp [Instr.sliceAt,Instr.slice,run_underlying hu,hb,sizeOf,typeInfo,hinf,hs,Cs]
theorem Zs {lo:Nat} (h:lo≤n) (w:World):(Instr.sliceBounds true n cap (some (.int .i64 (lo:Int))) none none).run P w=.ok (lo,n,cap) w:=by
 simp [Instr.sliceBounds,Instr.sliceBound,asIntOf,h]
theorem Zr {hi:Nat} (h:hi≤cap) (w:World):(Instr.sliceBounds true n cap none (some (.int .i64 (hi:Int))) none).run P w=.ok (0,hi,cap) w:=by
 simp [Instr.sliceBounds,Instr.sliceBound,asIntOf,h]
theorem P2 {T:World→World→Prop} {D:World→Prop} {t lo:Nat} (ht:K5 P t sz=true) (h:B8 cs=true→lo≤n) :
  Ob.ok P T D (.run cs (Instr.sliceAt t (.slice ad n cap) (some (.int .i64 (lo:Int))) none none) (.slice (Cs ad cap lo sz) (n-lo) (cap-lo))):=fun hk w' _=>Tu ht (Zs (h hk)) w'
theorem Qu {T:World→World→Prop} {D:World→Prop} {t hi:Nat} (ht:K5 P t sz=true) (h:B8 cs=true→hi≤cap) :
  Ob.ok P T D (.run cs (Instr.sliceAt t (.slice ad n cap) none (some (.int .i64 (hi:Int))) none) (.slice (Cs ad cap 0 sz) hi cap)):=fun hk w' _=>Tu ht (Zr (h hk)) w'
theorem Arr.cut (hf:∀x,(f x).length=sz) (h:Arr w sz f ad n cap l) {lo hi mx:Nat} (h1:lo≤hi) (h2:hi≤n) (h3:hi≤mx) (h4:mx≤cap):Arr w sz f (Cs ad mx lo sz) (hi-lo) (mx-lo) ((l.drop lo).take (hi-lo)):=by
 have hl:=h.1;obtain ⟨_,ad',cap',e,_,h5,h6,h7⟩:=h
 cases e
 have hlen:((l.drop lo).take (hi-lo)).length=hi-lo:=by rw [List.length_take,List.length_drop];omega
 refine ⟨hlen,_,_,rfl,by rw [D3 hf,hlen],by omega,by omega,fun hpos=>?_⟩;obtain ⟨a,rfl,h8,h9⟩:=h7 (by omega);have hne:mx≠lo:=by omega
 refine ⟨a.add (lo*sz),by simp [Cs,hne],by rw [N6];exact h8,fun j u hu=>?_⟩;rw [Mo];refine h9 _ u ?_
 by_cases hsz:sz=0
 ·have:((l.drop lo).take (hi-lo)).flatMap f=[]:=List.eq_nil_of_length_eq_zero (by rw [D3 hf,hsz];simp);rw [this] at hu;simp at hu
 ·have hjlt:j<(hi-lo)*sz:=by
   have:=(List.getElem?_eq_some_iff.1 hu).1;rw [D3 hf,hlen] at this;exact this
  have hq:j=(j/sz)*sz+j%sz:=by rw [Nat.mul_comm];exact (Nat.div_add_mod j sz).symm
  have hr:j%sz<sz:=Nat.mod_lt _ (by omega);have hqlt:j/sz<hi-lo:=by rw [Nat.div_lt_iff_lt_mul (by omega)];exact hjlt
  have hx1:((l.drop lo).take (hi-lo))[j/sz]? = some (((l.drop lo).take (hi-lo))[j/sz]'(by omega)):=List.getElem?_eq_getElem (by omega);have hx2:l[lo+j/sz]? = ((l.drop lo).take (hi-lo))[j/sz]?:=by rw [List.getElem?_take,if_pos hqlt,List.getElem?_drop]
  rw [hq,Mx hf _ _ _ _ hx1 hr] at hu;rw [hx1] at hx2;have:=Mx hf l (lo+j/sz) (j%sz) _ hx2 hr;rw [show lo*sz+j=(lo+j/sz)*sz+j%sz by rw [Nat.add_mul];omega,this];exact hu
end
section
variable {P:Program} {r:Option Nat} {ops:Array Oper} {Q:Exit→Act→World→Prop} {N:Nat} {ds:List Deferred} {M:List (Nat×Value)} {a:Act} {w w0 w':World} {H:List Res} {α:Type} {e sz n cap:Nat} {f:α→List Value} {ad:Option Addr} {l:List α} {cs:List Cd}
theorem St.arr {i:Nat} (h:St w0 H w) (hi:H[i]? = some (arr e sz f ad n cap l)):Arr w sz f ad n cap l:=by
 have:=h.holds _ (List.mem_of_getElem? hi);exact ⟨this.1,Sl.of_own this.2⟩
theorem St.nilarr (h:St w0 H w) (e sz:Nat) (f:α→List Value):St w0 (Go.Eng.arr e sz f none 0 0 ([]:List α)::H) w :=
 h.push (Ext.refl w) ⟨rfl,World.ownsRow_nil w 0 e sz⟩ (fun b hb=>by simp [Go.Eng.arr,Value.ownBlock] at hb)
theorem St.blk_arr {b:Nat} {cs:Array Value} (h:St w0 (Go.Eng.blk b e cs::H) w) (hf:∀x,(f x).length=sz) (hl:l.length=n) (hc:l.flatMap f=cs.toList) (hn:n≤maxLen):St w0 (Go.Eng.arr e sz f (some ⟨b,0,none⟩) n n l::H) w:=by
 refine h.conv ⟨hl,?_⟩ (fun k hk=>by simp [Go.Eng.arr,Value.ownBlock] at hk;exact hk.symm);rw [hc];refine Xq (h.holds _ (List.mem_cons_self ..)) ?_ hn;have:=D3 hf l;rw [hc,hl] at this
 simpa using this
end
end Go.Eng
namespace Go.Eng
open Go Go.RowKit
section
variable {P:Program} {w w':World}
theorem Be {t:Nat} {p:Addr} {u:Value} (ht:Q6 P t=true) (h:w.cell? p=some u):(loadVar t p).run P w=.ok u w:=by
 have:=Rb ht h
 simpa [Instr.loadAt,Instr.sureAddr] using this
theorem Df {t:Nat} {p:Addr} {cs:List Value} (ht:N7 P t=some cs.length) (h:∀j u,cs[j]? = some u→w.cell? (p.add j)=some u):(loadVar t p).run P w=.ok (.agg cs.toArray) w:=by
 have:=Rc ht h
 simpa [Instr.loadAt,Instr.sureAddr] using this
theorem Blk.cell1 {b j:Nat} {t:TypeId} {cs:Array Value} {v:Value} (h:Blk w b t cs) (hj:cs[j]? = some v):w.cell? ⟨b,j,none⟩=some v:=by
 rw [cell_of_row w b j cs t (0,0) h];exact hj
structure Fresh {α:Type} (w w':World) (e sz:Nat) (f:α→List Value) (ad:Option Addr) (n cap:Nat) (l:List α):Prop where
 holds:(arr e sz f ad n cap l).holds w'
 foot:∀b,(arr e sz f ad n cap l).foot b→w.heap.size≤b
theorem Fresh.of {α:Type} {e sz n cap i:Nat} {f:α→List Value} {ad:Option Addr} {l:List α} {H:List Res} (h:St w H w') (hi:H[i]? = some (Go.Eng.arr e sz f ad n cap l)):Fresh w w' e sz f ad n cap l :=
 ⟨h.holds _ (List.mem_of_getElem? hi),h.low _ (List.mem_of_getElem? hi)⟩
end
end Go.Eng
namespace Go.Eng
open Go Go.RowKit
def Ee (ops:Array Oper):Nat→Nat→Option Nat
 | 0,_=>none
 | i+1,t=>match dstAt ops i with
  | some d=>bif Nat.beq d t then some i else Ee ops i t
  | none=>Ee ops i t
def Ed (ops:Array Oper) (a0:Act) (σ:Nat→Value) (i t:Nat):Value :=
 match Ee ops i t with
 | some j=>σ j
 | none=>a0.tmps.getD t undef
theorem E9 {ops:Array Oper}:∀{i t j:Nat},Ee ops i t=some j→j<i∧dstAt ops j=some t∧∀k,j<k→k<i→dstAt ops k≠some t:=by
 intro i
 induction i with
 | zero=>intro t j h;simp [Ee] at h
 | succ i ih =>
  intro t j h;simp only [Ee] at h;have rec_:Ee ops i t=some j→dstAt ops i≠some t→j<i+1∧dstAt ops j=some t∧∀k,j<k→k<i+1→dstAt ops k≠some t:=by
   intro h' hne;obtain ⟨h1,h2,h3⟩:=ih h';exact ⟨by omega,h2,fun k hk hki=>by
    rcases Nat.lt_or_ge k i with hlt|hge
    ·exact h3 k hk hlt
    ·have:k=i:=by omega
     rw [this];exact hne⟩
  cases hd:dstAt ops i with
  | none=>rw [hd] at h;exact rec_ h (by rw [hd];simp)
  | some d =>
   rw [hd] at h;simp only at h
   cases hb:Nat.beq d t with
   | true =>
    rw [hb] at h;simp at h;subst h;rw [Nat.beq_eq] at hb;exact ⟨by omega,by rw [hd,hb],fun k hk hki=>by omega⟩
   | false =>
    rw [hb] at h;simp at h;exact rec_ h (by rw [hd];intro e;cases e;simp at hb)
theorem Jg {ops:Array Oper}:∀{i t:Nat},Ee ops i t=none→∀k,k<i→dstAt ops k≠some t:=by
 intro i
 induction i with
 | zero=>intro t _ k hk;omega
 | succ i ih =>
  intro t h k hk;simp only [Ee] at h;have rec_:Ee ops i t=none→dstAt ops i≠some t→dstAt ops k≠some t:=by
   intro h' hne;rcases Nat.lt_or_ge k i with hlt|hge
   ·exact ih h' k hlt
   ·have:k=i:=by omega
    rw [this];exact hne
  cases hd:dstAt ops i with
  | none=>rw [hd] at h;exact rec_ h (by rw [hd];simp)
  | some d =>
   rw [hd] at h;simp only at h
   cases hb:Nat.beq d t with
   | true=>rw [hb] at h;simp at h
   | false=>rw [hb] at h;simp at h;exact rec_ h (by rw [hd];intro e;cases e;simp at hb)
def H4 (σ:Nat→Value) (i:Nat) (v:Value):Nat→Value:=fun k=>if k=i then v else σ k
def OpGB (P:Program) (r:Option Nat) (ops:Array Oper) (o:Oper) (a:Act) (w:World) (R:Value→World→Prop) (B:List PanicEntry→World→Prop):Prop :=
 OpG P r ops o a w R∨(Region.wanted o (yielded ops a.tmps)=true∧∃f args w',(o.semAt r a.eval).run P w=.ok (.enter f args) w'∧Calls P f args w' (fun e w''=>(∃v,e=.returned v∧R v w'')∨∃ch,e=.panicked ch∧B ch w''))
def U0 (P:Program) (r:Option Nat) (ops:Array Oper) (m N:Nat) (a0:Act) (B:List PanicEntry→World→Prop) (G:(Nat→Bool)→(Nat→Value)→World→Prop):Prop :=
 ∀(S:Nat→Bool) (σ:Nat→Value) (a:Act) (w:World) (i:Nat) (o:Oper),i<m→ops[i]? = some o→S i=false→(∀j,Anc ops j i→S j=true)→(∀j k,S k=true→Anc ops j k→S j=true)→(∀k,S k=true→k<m) →
  a.tmps.size=N→a.defers=a0.defers→G S σ w→(∀t∈o.looksAt ops,a.tmps.getD t undef=Ed ops a0 σ i t)→OpGB P r ops o a w (fun v w'=>G (fun k=>S k||Nat.beq k i) (H4 σ i v) w') B
section
variable {P:Program} {r:Option Nat} {ops:Array Oper} {Q:Exit→Act→World→Prop} {N:Nat} {B:List PanicEntry→World→Prop}
theorem OpGB.wpOpIn {o:Oper} {i:Nat} {a:Act} {w:World} {R:Value→World→Prop} {K:Act→World→Prop} (ho:ops[i]? = some o) (h:OpGB P r ops o a w R B)
  (hk:∀v w',R v w'→K (a.put o.dst v) w') (hb:∀ch w',B ch w'→Q (.panic ch) a w'):wpOpIn (F0 r) 0 P ops Q i K a w:=by
 rcases h with h|⟨hw,f,args,w',hr,hc⟩
 ·exact h.wpOpIn ho hk
 ·unfold Go.wpOpIn;rw [ho];simp only [hw,if_true];refine ⟨fun _ _=>trivial,?_⟩
  change o.uponIn (F0 r) 0 P a K Q ((o.semAt r a.eval).run P w)
  rw [hr];refine ⟨fun h=>by simp [F0,Fence.wide] at h,J9.2 (Calls.mono hc ?_)⟩;rintro e w'' (⟨v,rfl,hv⟩|⟨ch,rfl,hv⟩)
  ·exact hk v w'' hv
  ·exact hb ch w'' hv
theorem OpGB.mono {o:Oper} {a:Act} {w:World} {R R':Value→World→Prop} (h:OpGB P r ops o a w R B) (hr:∀v w',R v w'→R' v w'):OpGB P r ops o a w R' B:=by
 rcases h with h|⟨hw,f,args,w',h1,hc⟩
 ·exact .inl (h.mono hr)
 ·refine .inr ⟨hw,f,args,w',h1,Calls.mono hc ?_⟩;rintro e w'' (⟨v,rfl,hv⟩|h)
  ·exact .inl ⟨v,rfl,hr _ _ hv⟩
  ·exact .inr h
structure GInv (ops:Array Oper) (m:Nat) (a0:Act) (G:(Nat→Bool)→(Nat→Value)→World→Prop) (N:Nat) (S:Array Bool) (σ:Nat→Value) (a:Act) (w:World):Prop where
 ssz:S.size=ops.size
 low:∀i,S.getD i false=true→i<m
 closed:Closed ops S
 sz:a.tmps.size=N
 dfs:a.defers=a0.defers
 g:G (fun k=>S.getD k false) σ w
 last:∀i d,S.getD i false=true→dstAt ops i=some d→(∀k,i<k→S.getD k false=true→dstAt ops k≠some d)→a.tmps.getD d undef=σ i
 base:∀t,(∀i,S.getD i false=true→dstAt ops i≠some t)→a.tmps.getD t undef=a0.tmps.getD t undef
theorem Gp {k:Nat} {d:Tmp} (h:dstAt ops k=some d):∃y,ops[k]? = some y∧y.dst=some d:=by
 unfold dstAt at h
 cases hy:ops[k]? with
 | none=>rw [hy] at h;simp at h
 | some y=>rw [hy] at h;exact ⟨y,rfl,by simpa using h⟩
theorem Wt {m:Nat} {a0:Act} {G:(Nat→Bool)→(Nat→Value)→World→Prop} (hdst:An ops N=true) (hord:Jm ops m=true) (htail:Fa ops m=true) (hedge:Dn ops=true) (hmn:m≤ops.size)
  (hB:∀ch a w,a.defers=a0.defers→B ch w→Q (.panic ch) a w) (hstep:U0 P r ops m N a0 B G)
  (hK:∀a' w' σ,a'.tmps.size=N→a'.defers=a0.defers→G (fun k=>Nat.blt k m) σ w'→(∀t,a'.tmps.getD t undef=Ed ops a0 σ m t)→WI P r ops Q m a' w') (hG:∀S S' σ w,(∀k,S k=S' k)→G S σ w→G S' σ w) :
  ∀(fuel:Nat) (S:Array Bool) (σ:Nat→Value) (a:Act) (w:World),GInv ops m a0 G N S σ a w→S.toList.count false≤fuel→wpAnyIn (F0 r) 0 P .any ops Q fuel S a w:=by
 have conf:∀{i j:Nat} {x y:Oper},i<j→j<m→ops[i]? = some x→ops[j]? = some y→((∃d,x.dst=some d∧d∈y.looksAt ops)∨(∃d,x.dst=some d∧y.dst=some d)∨(∃d,y.dst=some d∧d∈x.looksAt ops))→Anc ops i j:=by
  intro i j x y hij hj hx hy hc;rcases Ko hord hij hj hx hy with h|h
  ·have hs:=Oper.apart_spec h;rcases hc with ⟨d,h1,h2⟩|⟨d,h1,h2⟩|⟨d,h1,h2⟩
   ·exact absurd h2 (hs.1 d h1)
   ·exact absurd h2 (hs.2.1 d h1)
   ·exact absurd h2 (hs.2.2 d h1)
  ·exact h
 have full:∀(S:Array Bool) (σ:Nat→Value) (a:Act) (w:World),GInv ops m a0 G N S σ a w→(∀i,i<m→S.getD i false=true)→WI P r ops Q m a w:=by
  intro S σ a w hI hall;refine hK a w σ hI.sz hI.dfs (hG _ _ σ w (fun k=>?_) hI.g) ?_
  ·by_cases hk:k<m
   ·rw [hall k hk];exact (Nat.blt_eq.mpr hk).symm
   ·have h1:S.getD k false=false:=by
     cases hb:S.getD k false with
     | false=>rfl
     | true=>exact absurd (hI.low k hb) hk
    have h2:Nat.blt k m=false:=by
     cases hb:Nat.blt k m with
     | false=>rfl
     | true=>exact absurd (Nat.blt_eq.mp hb) hk
    rw [h1,h2]
  ·intro t;unfold Ed
   cases hs:Ee ops m t with
   | some j =>
    obtain ⟨h1,h2,h3⟩:=E9 hs;exact hI.last j t (hall j h1) h2 (fun k hk hSk=>h3 k hk (hI.low k hSk))
   | none=>exact hI.base t (fun i hi=>Jg hs i (hI.low i hi))
 intro fuel
 induction fuel with
 | zero =>
  intro S σ a w hI hcnt;have hall:∀i,i<ops.size→S.getD i false=true:=by
   intro i hi
   cases hb:S.getD i false with
   | true=>rfl
   | false =>
    have hti:S.getD i true=false:=by
     rw [Array.getD_eq_getD_getElem?] at hb ⊢;rw [Array.getElem?_eq_getElem (by rw [hI.ssz];exact hi)] at hb ⊢
     simpa using hb
    have:=R3 (Jj hti);omega
  have hmeq:m=ops.size:=by
   rcases Nat.lt_or_ge m ops.size with h|h
   ·have:=hI.low m (hall m h);omega
   ·omega
  have hW:=full S σ a w hI (fun i hi=>hall i (by omega));refine Mp hedge htail 0 m S a w (Nat.le_refl _) hI.ssz hI.closed (fun i=>?_) (by omega) (by omega) hW;exact ⟨fun h=>⟨hI.low i h,by have:=hI.low i h;omega⟩,fun h=>hall i h.2⟩
 | succ fuel ih =>
  intro S σ a w hI hcnt;refine ⟨fun h0=>?_,fun i hi=>?_⟩
  ·have hall:=N8 hedge hI.ssz h0;have hmeq:m=ops.size:=by
    rcases Nat.lt_or_ge m ops.size with h|h
    ·have:=hI.low m (hall m h);omega
    ·omega
   have hW:=full S σ a w hI (fun i hi=>hall i (by omega));rw [hmeq] at hW
   simpa [WI,wpOpsIn] using hW
  ·obtain ⟨h0,o,ho,hedges⟩:=mem_ready.1 hi;have hin:i<ops.size:=(Array.getElem?_eq_some_iff.1 ho).1;have hiS:S.getD i false=false:=J3 h0
   by_cases him:i<m
   ·have hd:dstAt ops i=o.dst:=by simp [dstAt,ho]
    have hlook:∀t∈o.looksAt ops,a.tmps.getD t undef=Ed ops a0 σ i t:=by
     intro t ht;have later:∀k,i<k→S.getD k false=true→dstAt ops k≠some t:=by
      intro k hk hSk hdk;obtain ⟨y,hy,hyd⟩:=Gp hdk;have:=(conf hk (hI.low k hSk) ho hy (.inr (.inr ⟨t,hyd,ht⟩))).listed hI.closed hSk;rw [hiS] at this;cases this
     unfold Ed
     cases hs:Ee ops i t with
     | some j =>
      obtain ⟨h1,h2,h3⟩:=E9 hs;obtain ⟨x,hx,hxd⟩:=Gp h2;have hSj:=(conf h1 him hx ho (.inl ⟨t,hxd,ht⟩)).ready hI.closed hi;refine hI.last j t hSj h2 (fun k hk hSk=>?_);rcases Nat.lt_trichotomy k i with hki|hki|hki
      ·exact h3 k hk hki
      ·subst hki;rw [hiS] at hSk;cases hSk
      ·exact later k hki hSk
     | none =>
      refine hI.base t (fun k hSk=>?_);rcases Nat.lt_trichotomy k i with hki|hki|hki
      ·exact Jg hs k hki
      ·subst hki;rw [hiS] at hSk;cases hSk
      ·exact later k hki hSk
    refine (hstep (fun k=>S.getD k false) σ a w i o him ho hiS (fun j hj=>hj.ready hI.closed hi) (fun j k hk hj=>hj.listed hI.closed hk) (fun k hk=>hI.low k hk) hI.sz hI.dfs hI.g hlook).wpOpIn ho ?_ (fun ch w' hb=>hB ch a w' hI.dfs hb);intro v w' hg;refine ih _ (H4 σ i v) _ _ ?_ ?_
    ·refine ⟨by simp [hI.ssz],fun j hj=>?_,hI.closed.set hi,by rw [Lx];exact hI.sz,by rw [Jd];exact hI.dfs,hG _ _ _ _ (fun k=>?_) hg,?_,?_⟩
     ·by_cases hij:i=j
      ·subst hij;exact him
      ·rw [getD_set_ne false hij] at hj;exact hI.low j hj
     ·by_cases hik:i=k
      ·subst hik;rw [Ea (by rw [hI.ssz];exact hin)];simp
      ·rw [getD_set_ne false hik];have:Nat.beq k i=false:=by
        cases hb:Nat.beq k i with
        | false=>rfl
        | true=>rw [Nat.beq_eq] at hb;exact absurd hb.symm hik
       rw [this,Bool.or_false]
     ·intro j d hSj hdj hlast
      by_cases hij:i=j
      ·subst hij;rw [hd] at hdj;rw [hdj,N0 (by rw [hI.sz];exact Ja hdst ho hdj)];simp [H4]
      ·rw [getD_set_ne false hij] at hSj;have hne:o.dst≠some d:=by
        intro hod;rcases Nat.lt_or_ge j i with hji|hji
        ·exact hlast i hji (Ea (by rw [hI.ssz];exact hin)) (by rw [hd];exact hod)
        ·obtain ⟨y,hy,hyd⟩:=Gp hdj;have:=(conf (show i<j by omega) (hI.low j hSj) ho hy (.inr (.inl ⟨d,hod,hyd⟩))).listed hI.closed hSj;rw [hiS] at this;cases this
       rw [J0 hne,hI.last j d hSj hdj (fun k hk hSk=>hlast k hk (getD_set_true hSk))];simp [H4,Ne.symm hij]
     ·intro t hnone;have hne:o.dst≠some t:=fun e=>hnone i (Ea (by rw [hI.ssz];exact hin)) (by rw [hd];exact e);rw [J0 hne];exact hI.base t (fun k hk=>hnone k (getD_set_true hk))
    ·have h1:=R4 S.toList i (Jj h0);have h2:(S.setIfInBounds i true).toList=S.toList.set i true:=by simp
     rw [h2];omega
   ·have hall:∀j,j<i→S.getD j false=true:=fun j hj=>(Mg htail (by omega) hin hj).ready hI.closed hi;have him':i=m:=by
     rcases Nat.lt_or_ge m i with h|h
     ·have:=hI.low m (hall m h);omega
     ·omega
    have hW:=full S σ a w hI (fun j hj=>hall j (by omega));have hSiff:∀j,S.getD j false=true↔j<m∧j<ops.size:=fun j=>⟨fun h=>⟨hI.low j h,by have:=hI.low j h;omega⟩,fun h=>hall j (by omega)⟩;have hle:ops.size≤m+(fuel+1):=by
     have:∀(n k:Nat) (l:List Bool),l.length=n→(∀j,k≤j→j<n→l[j]? = some false)→n≤k+l.count false:=by
      intro n
      induction n with
      | zero=>intro k l _ _;omega
      | succ n ihn =>
       intro k l hl hf
       cases l with
       | nil=>simp at hl
       | cons b l =>
        cases k with
        | zero =>
         have h0':=hf 0 (Nat.le_refl _) (by omega);simp at h0';subst h0';have:=ihn 0 l (by simpa using hl) (fun j _ hj=>by simpa using hf (j+1) (by omega) (by omega));simp;omega
        | succ k =>
         have:=ihn k l (by simpa using hl) (fun j hj hjn=>by simpa using hf (j+1) (by omega) (by omega));have hcl:l.count false≤(b::l).count false:=by cases b<;>simp
         omega
     have:=this ops.size m S.toList (by simpa using hI.ssz) (fun j hj hjn=>by
      have hnot:¬S.getD j false=true:=fun h=>by have:=hI.low j h;omega
      rw [Array.getElem?_toList];rw [Array.getD_eq_getD_getElem?,Array.getElem?_eq_getElem (by rw [hI.ssz];exact hjn)] at hnot;rw [Array.getElem?_eq_getElem (by rw [hI.ssz];exact hjn)]
      simpa using hnot)
     omega
    exact (Mp hedge htail (fuel+1) m S a w (Nat.le_refl _) hI.ssz hI.closed hSiff hle hmn hW).2 i hi
theorem Qw {id m:Nat} {a:Act} {w:World} {G:(Nat→Bool)→(Nat→Value)→World→Prop} (hmo:P.follows .mixedOrders=true) (hdst:An ops N=true) (hord:Jm ops m=true) (htail:Fa ops m=true)
  (hedge:Dn ops=true) (hmn:m≤ops.size) (hB:∀ch a' w,a'.defers=a.defers→B ch w→Q (.panic ch) a' w) (hstep:U0 P r ops m N a B G) (hN:a.tmps.size=N) (hG:∀S S' σ w,(∀k,S k=S' k)→G S σ w→G S' σ w) (σ0:Nat→Value) (h0:G (fun _=>false) σ0 { w with drawn:=w.drawn+1 })
  (hK:∀a' w' σ,a'.tmps.size=N→a'.defers=a.defers→G (fun k=>Nat.blt k m) σ w'→(∀t,a'.tmps.getD t undef=Ed ops a σ m t)→WI P r ops Q m a' w'):WP P r (.region id ops true) Q a w:=by
 refine wpIn_region_any hmo ?_;have hnone:∀i,(Array.replicate ops.size false).getD i false=false:=by
  intro i
  cases hb:(Array.replicate ops.size false).getD i false with
  | false=>rfl
  | true =>
   have:=L0 hb;simp at this;simp [this] at hb
 have hno:∀i,¬(Array.replicate ops.size false).getD i false=true:=fun i h=>by rw [hnone i] at h;cases h
 refine Wt hdst hord htail hedge hmn hB hstep hK hG ops.size _ σ0 a _ ⟨by simp,fun i h=>absurd h (hno i),fun i o e h=>absurd h (hno i),hN,rfl,hG _ _ _ _ (fun k=>(hnone k).symm) h0,fun i d h=>absurd h (hno i),fun t _=>rfl⟩ ?_;refine Nat.le_trans List.count_le_length ?_;simp
end
end Go.Eng
namespace Go.Eng
open Go Go.RowKit
section
variable {P:Program} {r:Option Nat} {ops:Array Oper} {Q:Exit→Act→World→Prop} {N:Nat} {ds:List Deferred} {M:List (Nat×Value)} {ch:List Nat} {vals:List Value}
structure Tok where
 prod:Option Nat
 cons:Option Nat
 res:Value→Res
def Tok.at (k:Tok) (σ:Nat→Value):Res:=match k.prod with|some p=>k.res (σ p)|none=>k.res undef
end
end Go.Eng
namespace Go.Eng
open Go Go.RowKit
section
variable {P:Program} {r:Option Nat} {ops:Array Oper} {N:Nat} {ds:List Deferred} {M:List (Nat×Value)} {a:Act} {w w0:World} {F H:List Res} {α:Type} {e sz n:Nat} {f:α→List Value} {l l':List α} {o:Oper} {c:Nat}
end
end Go.Eng
namespace Go.Eng
open Go Go.RowKit
section
variable {w w0:World} {F:List Res} {R S:Res} {α:Type} {e sz n cap:Nat} {f:α→List Value} {l:List α} {ad:Option Addr}
end
end Go.Eng
namespace Go.Eng
open Go Go.RowKit
structure SlV where
 ad:Option Addr
 n:Nat
 cap:Nat
instance:Inhabited SlV:=⟨⟨none,0,0⟩⟩
def Res.both (R S:Res):Res where
 foot:=fun b=>R.foot b∨S.foot b
 holds:=fun w=>R.holds w∧S.holds w
 loc:=fun w w' h hb=>⟨R.loc w w' (fun b hk=>h b (.inl hk)) hb.1,S.loc w w' (fun b hk=>h b (.inr hk)) hb.2⟩
 lt:=fun w b hb hk=>hk.elim (R.lt w b hb.1) (S.lt w b hb.2)
def Res.none:Res where
 foot:=fun _=>False
 holds:=fun _=>True
 loc:=fun _ _ _ h=>h
 lt:=fun _ _ _ h=>h.elim
section
variable {w w0:World} {R S:Res} {H:List Res}
theorem St.both (h:St w0 (R::S::H) w):St w0 (R.both S::H) w:=by
 have hp:=List.pairwise_cons.1 h.apart;have hp2:=List.pairwise_cons.1 hp.2;refine ⟨h.ext,fun T hT=>?_,fun T hT b hb=>?_,List.pairwise_cons.2 ⟨fun T hT b hb=>?_,hp2.2⟩⟩
 ·rcases List.mem_cons.1 hT with rfl|hT
  ·exact ⟨h.holds _ (by simp),h.holds _ (by simp)⟩
  ·exact h.holds T (by simp [hT])
 ·rcases List.mem_cons.1 hT with rfl|hT
  ·rcases hb with hb|hb
   ·exact h.low R (by simp) b hb
   ·exact h.low S (by simp) b hb
  ·exact h.low T (by simp [hT]) b hb
 ·rcases hb with hb|hb
  ·exact hp.1 T (by simp [hT]) b hb
  ·exact hp2.1 T hT b hb
structure Made (w w':World) (R:Res):Prop where
 holds:R.holds w'
 foot:∀b,R.foot b→w.heap.size≤b
theorem Made.of {i:Nat} (h:St w H w0) (hi:H[i]? = some R):Made w w0 R:=⟨h.holds _ (List.mem_of_getElem? hi),h.low _ (List.mem_of_getElem? hi)⟩
theorem St.res {i:Nat} (h:St w0 H w) (hi:H[i]? = some R):R.holds w:=h.holds _ (List.mem_of_getElem? hi)
theorem St.pick (is:List Nat) (hn:is.Nodup) (h:St w0 H w):St w0 (is.filterMap fun i=>H[i]?) w:=by
 have hm:∀R,R∈is.filterMap (fun i=>H[i]?)→R∈H:=fun R hR=>by
  obtain ⟨i,_,hi⟩:=List.mem_filterMap.1 hR;exact List.mem_of_getElem? hi
 refine ⟨h.ext,fun R hR=>h.holds R (hm R hR),fun R hR=>h.low R (hm R hR),?_⟩;rw [List.pairwise_filterMap];refine hn.imp ?_;intro i j hij R hR S hS b h1 h2;have hi:=List.getElem?_eq_some_iff.1 hR;have hj:=List.getElem?_eq_some_iff.1 hS;rcases Nat.lt_or_gt_of_ne hij with hlt|hgt
 ·have:=List.pairwise_iff_getElem.1 h.apart i j hi.1 hj.1 hlt b;rw [hi.2,hj.2] at this;exact this h1 h2
 ·have:=List.pairwise_iff_getElem.1 h.apart j i hj.1 hi.1 hgt b;rw [hi.2,hj.2] at this;exact this h2 h1
theorem St.madeL {w':World} {H':List Res} (h:St w0 H w) (hR:St w H' w'):St w0 (H'++H) w':=by
 have h':=h.later hR.ext;refine ⟨h'.ext,fun T hT=>?_,fun T hT b hb=>?_,List.pairwise_append.2 ⟨hR.apart,h'.apart,fun U hU T hT b hb hb'=>?_⟩⟩
 ·rcases List.mem_append.1 hT with hT|hT
  ·exact hR.holds T hT
  ·exact h'.holds T hT
 ·rcases List.mem_append.1 hT with hT|hT
  ·exact Nat.le_trans h.ext.size (hR.low T hT b hb)
  ·exact h'.low T hT b hb
 ·have:=T.lt w b (h.holds T hT) hb';have:=hR.low U hU b hb;omega
end
end Go.Eng
namespace Go.Eng
open Go Go.RowKit
def J1 (b:Nat) (o:Obj):Res where
 foot:=fun k=>k=b
 holds:=fun w=>w.heap[b]? = some o
 loc:=fun w w' h hb=>(h b rfl).trans hb
 lt:=fun w k hb hk=>by subst hk;exact (Array.getElem?_eq_some_iff.1 hb).1
section
variable {P:Program} {w w0:World} {H:List Res}
theorem St.putObj {i b:Nat} {o:Obj} (o':Obj) (h:St w0 H w) (hi:H[i]? = some (J1 b o)):St w0 (H.set i (J1 b o')) (w.putObj b o'):=by
 have hb:w.heap[b]? = some o:=h.res hi;refine h.upd hi rfl rfl rfl (by simp [World.putObj]) (fun k _ hk=>World.putObj_heap_other (fun e=>hk e)) ?_ (fun k hk=>.inl hk);exact World.putObj_heap_same (Array.getElem?_eq_some_iff.1 hb).1
theorem St.allocObj (o:Obj) (h:St w0 H w):St w0 (J1 w.heap.size o::H) (w.alloc o) :=
 h.push ((Below.refl _ w).alloc (Nat.le_refl _) o) (World.alloc_heap_new w o) (fun b hb=>by rw [show b=w.heap.size from hb];exact Nat.le_refl _)
def Yields (P:Program) (l:Nat) (args:Array Value) (w:World) (R:Bool→World→Prop):Prop :=
 ∃f tmps assign body,(Instr.yield l args).run P w=.ok (.round l f tmps assign body) w∧RoundIn (F0 none) 0 P l f tmps assign body w (fun e w'=>∃b,e=.returned (.bool b)∧R b w')
end
structure YieldAt (P:Program) (ops:Array Oper) (k:Nat) (M:List (Nat×Value)) (l:Nat) (args:Array Value):Prop where
 eq:((plainAt ops k M).bind fun o=>match o.op with|.call c=>(match pureSem P (resolve (rhoE (ofM M)) c o.type) with|some d=>(match d.target with|.fn (.yield l) _=>some (l,d.args)|_=>none)|_=>none)|_=>none)=some (l,args)
section
variable {P:Program} {ops:Array Oper} {Q:Exit→Act→World→Prop} {N:Nat} {ds:List Deferred} {M:List (Nat×Value)} {a:Act} {w w0:World} {H:List Res}
theorem A1t {k:Nat} (k':Nat) (M':Bool→List (Nat×Value)) {l:Nat} {args:Array Value} {R:Bool→World→Prop} (hF:Fr N ds M a) (hdst:An ops N=true) (hs:YieldAt P ops k M l args) (hy:Yields P l args w R)
  (hM:∀b,NextM ops k M (.bool b) (M' b)) (hk:k+1=k') (next:∀b w' a',R b w'→Fr N ds (M' b) a'→WI P none ops Q k' a' w'):WI P none ops Q k a w:=by
 have hs:=hs.eq
 cases hp:plainAt ops k M with
 | none=>rw [hp] at hs;simp at hs
 | some o =>
  rw [hp] at hs;simp only [Option.bind_some] at hs;obtain ⟨h1,h2,h3⟩:=Fm (r:=none) hp hF;obtain ⟨f,tmps,assign,body,hrun,hround⟩:=hy;have hrunop:(execOp (rhoE (ofM M)) o).run P w=.ok (.round l f tmps assign body) w:=by
   split at hs
   ·rename_i c hop
    split at hs
    ·rename_i d hd
     split at hs
     ·rename_i l' cap htar
      simp only [Option.some.injEq,Prod.mk.injEq] at hs;obtain ⟨rfl,rfl⟩:=hs;unfold execOp;rw [hop];simp only [Sem.run_bind,B3 _ _ hd w,Result.andThen];unfold invoke;rw [htar];exact hrun
     ·simp at hs
    ·simp at hs
   ·simp at hs
  have hi:k<ops.size:=(Array.getElem?_eq_some_iff.1 h1).1;have e:List.range' k (ops.size-k)=k::List.range' (k+1) (ops.size-(k+1)):=by
   rw [show ops.size-k=(ops.size-(k+1))+1 by omega,List.range'_succ]
  unfold WI;rw [e,wpOpsIn_cons];unfold Go.wpOpIn;rw [h1];simp only;rw [if_pos h2];refine ⟨fun _ _=>trivial,?_⟩
  change o.uponIn (F0 none) 0 P a _ Q ((o.semAt none a.eval).run P w)
  rw [h3,hrunop,Oper.uponIn_round];refine ⟨fun h=>by simp [F0,Fence.wide] at h,RoundIn.mono hround ?_⟩;rintro e w' ⟨b,rfl,hR⟩;have:=next b w' _ hR (Er h1 hdst hF (hM b))
  rw [←hk] at this;exact this
def A2r (a:Act) (ps:Array Tmp) (assign body:Code) (D:Nat) (fn:FuncId) (s:LoopState) (pe:Option Code):Obj:=.loop { state:=s,pending:=pe,fn,tmps:=a.tmps,params:=ps,assign,body,defers:=D }
theorem Wk:∀(zs:List (Nat×Value)) (t:Array Value),(zs.foldl (fun t p=>t.setIfInBounds p.1 p.2) t).size=t.size:=by
 intro zs
 induction zs with
 | nil=>intro t;rfl
 | cons z zs ih=>intro t;rw [List.foldl_cons,ih];simp
theorem Qs:∀{M1 M2:List (Nat×Value)} {t:Nat},lookM (M1++M2) t=(lookM M1 t).or (lookM M2 t):=by
 intro M1
 induction M1 with
 | nil=>intro M2 t;simp [lookM]
 | cons p M1 ih =>
  intro M2 t;obtain ⟨k,v⟩:=p;simp only [List.cons_append,lookM,ih]
  cases Nat.beq k t<;>simp
theorem Xo:∀(zs:List (Nat×Value)) (t:Array Value) (i:Nat) (v:Value),(∀p∈zs,p.1<t.size)→(lookM zs.reverse i=some v→(zs.foldl (fun t p=>t.setIfInBounds p.1 p.2) t).getD i undef=v)∧(lookM zs.reverse i=none→(zs.foldl (fun t p=>t.setIfInBounds p.1 p.2) t).getD i undef=t.getD i undef):=by
 intro zs
 induction zs with
 | nil=>intro t i v _;exact ⟨fun h=>by simp [lookM] at h,fun _=>rfl⟩
 | cons z zs ih =>
  intro t i v hz;obtain ⟨k,u⟩:=z;have hk:k<t.size:=hz (k,u) (List.mem_cons_self ..);have ih':=ih (t.setIfInBounds k u) i v (fun p hp=>by rw [Array.size_setIfInBounds];exact hz p (List.mem_cons_of_mem _ hp));have hget:(t.setIfInBounds k u).getD i undef=if k=i then u else t.getD i undef:=by
   simp only [Array.getD_eq_getD_getElem?,Array.getElem?_setIfInBounds]
   split
   ·rename_i e;subst e;simp
   ·rfl
  rw [List.foldl_cons,List.reverse_cons,Qs];have hone:lookM [(k,u)] i=if k=i then some u else none:=by
   simp only [lookM]
   by_cases e:k=i
   ·subst e;simp
   ·rw [if_neg e,show Nat.beq k i=false from by rw [←Bool.not_eq_true,Nat.beq_eq];exact e];rfl
  rw [hone]
  cases hl:lookM zs.reverse i with
  | some v' =>
   constructor
   ·intro h;simp at h;subst h;exact ((ih (t.setIfInBounds k u) i v' (fun p hp=>by rw [Array.size_setIfInBounds];exact hz p (List.mem_cons_of_mem _ hp))).1 hl)
   ·intro h;simp at h
  | none =>
   have:=ih'.2 hl;rw [this,hget];constructor
   ·intro h;simp only [Option.none_or] at h
    split at h
    ·rename_i e;rw [if_pos e];simpa using h
    ·simp at h
   ·intro h;simp only [Option.none_or] at h
    split at h
    ·simp at h
    ·rename_i e;rw [if_neg e]
def A52 (w0:World) (l:Nat) (rec:LoopState→Option Code→Obj) (R:Bool→World→Prop):Exit→Act→World→Prop
 | .normal,_,w=>∃Hy,St w0 (J1 l (rec .busy none)::Hy) w∧∀w',St w0 (J1 l (rec .ready none)::Hy) w'→R true w'
 | .ret,_,w=>∃Hy,St w0 (J1 l (rec .busy none)::Hy) w∧∀w',St w0 (J1 l (rec .done (some .ret))::Hy) w'→R false w'
 | .exit id,_,w=>∃Hy,St w0 (J1 l (rec .busy none)::Hy) w∧∀w',St w0 (J1 l (rec .done (some (.exit id)))::Hy) w'→R false w'
 | _,_,_=>False
theorem A53 {l D:Nat} {fn:FuncId} {ps:Array Tmp} {assign body:Code} {args:Array Value} {R:Bool→World→Prop} {Hx:List Res} {b0:Act} {rec:LoopState→Option Code→Obj} (hrec:rec=A2r b0 ps assign body D fn) (zs:List (Nat×Value)) (M1:List (Nat×Value)) (hF:Fr N ds M b0) (hz:(ps.zip args).toList=zs) (hsz:args.size=ps.size)
  (hlt:(zs.all fun p=>Nat.blt p.1 N)=true) (hM1:M1.map (fun p=>lookM (zs.reverse++M) p.1)=M1.map (fun p=>some p.2)) (hS:St w0 (J1 l (rec .ready none)::Hx) w)
  (h:∀a0,Fr N [] M1 a0→WP P (some l) assign (Exit.then (fun a1 w1=>∃Hy,St w0 (J1 l (rec .ready none)::Hy) w1∧∀w2,St w0 (J1 l (rec .busy none)::Hy) w2→WP P (some l) body (A52 w0 l rec R) a1 w2) (fun _ _ _=>False)) a0 w) :
  Yields P l args w R:=by
 subst hrec;have hl:=hS.res (i:=0) rfl;refine ⟨fn,_,assign,body,run_yield (P:=P) hl hsz,roundIn_of_wpIn (F:=F0 none) trivial ?_⟩;have hfr:Fr N [] M1 { tmps:=(ps.zip args).foldl (fun t (p,v)=>t.setIfInBounds p v) b0.tmps,defers:=[] }:=by
  have e:(ps.zip args).foldl (fun t (p,v)=>t.setIfInBounds p v) b0.tmps=zs.foldl (fun t p=>t.setIfInBounds p.1 p.2) b0.tmps:=by
   rw [←Array.foldl_toList,hz]
  rw [e];refine ⟨by rw [Wk];exact hF.size,rfl,fun p hp=>?_⟩;have hq:=List.map_inj_left.1 hM1 p hp;have hb:∀q∈zs,q.1<b0.tmps.size:=fun q hq=>by rw [hF.size];exact Nat.blt_eq.mp (List.all_eq_true.1 hlt q hq)
  have hs:=Xo zs b0.tmps p.1 p.2 hb;rw [Qs] at hq
  cases hr:lookM zs.reverse p.1 with
  | some v=>rw [hr] at hq;simp at hq;subst hq;exact hs.1 hr
  | none=>rw [hr] at hq;simp at hq;rw [show (({ tmps:=zs.foldl (fun t p=>t.setIfInBounds p.1 p.2) b0.tmps,defers:=[] }:Act).tmps.getD p.1 undef)=_ from hs.2 hr];exact hF.get hq
 refine wpIn_mono (h _ hfr) ?_;intro e a1 w1 hq
 cases e with
 | normal =>
  obtain ⟨Hy,hS1,hb⟩:=hq;refine ⟨_,run_beginRound (P:=P) (hS1.res (i:=0) rfl) rfl,?_⟩;refine wpIn_mono (hb _ (hS1.putObj (i:=0) _ rfl)) ?_;intro e a2 w2 hq2
  cases e with
  | normal =>
   obtain ⟨Hz,hS2,hR⟩:=hq2;exact ⟨_,_,run_endRound (P:=P) none (hS2.res (i:=0) rfl),true,rfl,hR _ (hS2.putObj (i:=0) _ rfl)⟩
  | ret =>
   obtain ⟨Hz,hS2,hR⟩:=hq2;exact ⟨_,_,run_endRound (P:=P) (some .ret) (hS2.res (i:=0) rfl),false,rfl,hR _ (hS2.putObj (i:=0) _ rfl)⟩
  | exit id =>
   obtain ⟨Hz,hS2,hR⟩:=hq2;exact ⟨_,_,run_endRound (P:=P) (some (.exit id)) (hS2.res (i:=0) rfl),false,rfl,hR _ (hS2.putObj (i:=0) _ rfl)⟩
  | goto t=>exact hq2.elim
  | panic c=>exact hq2.elim
  | outgrown=>exact hq2.elim
 | ret=>exact hq.elim
 | exit id=>exact hq.elim
 | goto t=>exact hq.elim
 | panic c=>exact hq.elim
 | outgrown=>exact hq.elim
def Tk (Ds:List Nat):List Deferred:=Ds.map fun D=>⟨.collected D,#[]⟩
def F7 (Ds:List Nat):Res where
 foot:=fun k=>k∈Ds
 holds:=fun w=>Ds.Nodup∧∀D∈Ds,w.heap[D]? = some (.deferred (some []))
 loc:=fun _w _w' h hb=>⟨hb.1,fun D hD=>(h D hD).trans (hb.2 D hD)⟩
 lt:=fun _w k hb hk=>(Array.getElem?_eq_some_iff.1 (hb.2 k hk)).1
theorem St.mark {D:Nat} {Ds:List Nat} (h:St w0 (J1 D (.deferred (some []))::F7 Ds::H) w):St w0 (F7 (D::Ds)::H) w:=by
 have hp:=List.pairwise_cons.1 h.apart;refine h.both.conv ⟨List.nodup_cons.2 ⟨fun hD=>hp.1 (F7 Ds) (by simp) D rfl hD,(h.res (i:=1) rfl).1⟩,fun E hE=>?_⟩ (fun b hb=>?_)
 ·rcases List.mem_cons.1 hE with rfl|hE
  ·exact h.res (i:=0) rfl
  ·exact (h.res (i:=1) rfl).2 E hE
 ·rcases List.mem_cons.1 hb with rfl|hb
  ·exact .inl rfl
  ·exact .inr hb
theorem St.noMarks (h:St w0 H w):St w0 (F7 []::H) w:=h.push (Ext.refl w) ⟨List.nodup_nil,fun _ h=>by simp at h⟩ (fun _ hb=>by simp [F7] at hb)
theorem Yr {f:FuncId} {fn:Func} {c:Code} {args:Array Value} {R:Ending→World→Prop} (hf:P.funcs[f]? = some fn) (hb:fn.body=some c) (N:Nat) (M:List (Nat×Value)) (hN:fn.ntmps=N)
  (hsz:Nat.ble args.size N=true) (hM:M.map (fun p=>(args++Array.replicate (N-args.size) undef).getD p.1 undef)=M.map Prod.snd) (h:∀a,Fr N (Tk []) M a→WP P none c (bodyPostM (F0 none) 0 P fn R) a w):Calls P f args w R:=by
 refine J9 (r:=none) (n:=0) |>.1 (callsIn_of_wp_marks hf hb trivial ?_ rfl);refine h _ ⟨?_,rfl,fun p hp=>?_⟩
 ·have:=Nat.le_of_ble_eq_true hsz;simp [hN];omega
 ·rw [hN];exact List.map_inj_left.1 hM p hp
theorem A2f {fn:Func} {tmps:Array Value} {R:Ending→World→Prop}:∀(Ds:List Nat) (w:World) (H:List Res),St w0 (F7 Ds::H) w→(∀w',St w0 H w'→∃v,(results fn tmps).run P w'=.ok v w'∧R (.returned v) w') →
  LeavesInM (F0 none) 0 P fn tmps R (Tk Ds) .returning w:=by
 intro Ds
 induction Ds with
 | nil=>intro w H hS h;exact h w hS.drop1
 | cons D Ds ih =>
  intro w H hS h;have hm:=hS.res (i:=0) rfl;have hD:w.heap[D]? = some (.deferred (some [])):=hm.2 D (List.mem_cons_self ..);refine ⟨by simp,.inl ⟨D,_,rfl,run_takeDeferred hD,ih _ H ?_ h⟩⟩;have hnd:=List.nodup_cons.1 hm.1;refine hS.upd (i:=0) (R':=F7 Ds) rfl rfl rfl rfl (by simp [World.putObj]) (fun k _ hk=>World.putObj_heap_other (fun e=>hk (by rw [e];exact List.mem_cons_self ..))) ⟨hnd.2,fun E hE=>?_⟩ (fun k hk=>.inl (List.mem_cons_of_mem _ hk));have hne:E≠D:=fun e=>hnd.1 (e▸hE);rw [World.putObj_heap_other hne];exact hm.2 E (List.mem_cons_of_mem _ hE)
theorem A28 {fn:Func} {R:Ending→World→Prop} {Ds:List Nat} (rs:List ResultVar) (vs:List Value) (hF:Fr N (Tk Ds) M a) (hS:St w0 (F7 Ds::H) w) (hrs:fn.results=rs.toArray)
  (h:∀w',St w0 H w'→Pt P w' M rs vs∧R (.returned (match vs with|[v]=>v|_=>.tuple vs.toArray)) w'):bodyPostM (F0 none) 0 P fn R .ret a w:=by
 show LeavesInM (F0 none) 0 P fn a.tmps R a.defers .returning w;rw [hF.defers];refine A2f Ds w H hS fun w' hS'=>?_;obtain ⟨h1,h2⟩:=h w' hS';refine ⟨_,?_,h2⟩;have hm:=Rg (a:=a) rs vs h1 hF;have e:results fn a.tmps=(do let vs ←fn.results.mapM (Q9 a.tmps);pure (if h:vs.size=1 then vs[0] else .tuple vs)):=by
  unfold results
  congr 1
 rw [e,hrs,List.mapM_toArray];simp [hm];rcases vs with _|⟨v,_|⟨u,vs⟩⟩<;>simp
structure SkipAt (ops:Array Oper) (k:Nat) (M:List (Nat×Value)):Prop where
 eq:((ops[k]?).bind (·.guard)).bind (guardIs ops M)=some false
theorem A3q {r:Option Nat} {k:Nat} (k':Nat) (M':List (Nat×Value)) (hF:Fr N ds M a) (hdst:An ops N=true) (hs:SkipAt ops k M) (hM:NextM ops k M undef M') (hk:k+1=k')
  (next:∀a',Fr N ds M' a'→WI P r ops Q k' a' w):WI P r ops Q k a w:=by
 have hs:=hs.eq
 cases ho:ops[k]? with
 | none=>rw [ho] at hs;simp at hs
 | some o =>
  rw [ho] at hs;simp only [Option.bind_some] at hs
  cases hg:o.guard with
  | none=>rw [hg] at hs;simp at hs
  | some g =>
   rw [hg] at hs;simp only [Option.bind_some] at hs;have hw:=Lf hs hF;refine WI.cons (R:=fun v w'=>v=undef∧w'=w) ho ?_ ?_
   ·unfold OpG;have:Region.wanted o (yielded ops a.tmps)=false:=by simp only [Region.wanted,hg];exact hw
    rw [this];exact ⟨rfl,rfl⟩
   ·rintro v w' ⟨rfl,rfl⟩;rw [hk];exact next _ (Er ho hdst hF hM)
theorem St.pickT {A T:List Res} (is:List Nat) (hn:is.Nodup) (h:St w0 (A++T) w):St w0 ((is.filterMap fun i=>A[i]?)++T) w:=by
 have hm:∀R,R∈is.filterMap (fun i=>A[i]?)→R∈A:=fun R hR=>by
  obtain ⟨i,_,hi⟩:=List.mem_filterMap.1 hR;exact List.mem_of_getElem? hi
 have hm2:∀R,R∈is.filterMap (fun i=>A[i]?)++T→R∈A++T:=fun R hR=>by
  rcases List.mem_append.1 hR with hR|hR
  ·exact List.mem_append_left _ (hm R hR)
  ·exact List.mem_append_right _ hR
 have hp:=List.pairwise_append.1 h.apart;have hA:St w0 A w:=h.sub (List.sublist_append_left ..);exact ⟨h.ext,fun R hR=>h.holds R (hm2 R hR),fun R hR=>h.low R (hm2 R hR),List.pairwise_append.2 ⟨(hA.pick is hn).apart,hp.2.1,fun R hR S hS=>hp.2.2 R (hm R hR) S hS⟩⟩
theorem St.sA {A T:List Res} {R:Res} (h:St w0 (A++R::T) w):St w0 (R::(A++T)) w:=h.perm List.perm_middle
theorem St.dA {A T:List Res} {R:Res} (h:St w0 (A++R::T) w):St w0 (A++T) w:=h.sub (List.Sublist.append_left (List.sublist_cons_self ..) A)
section
variable {a b c d e f g i j k l m n o p:Res} {T:List Res}
theorem St.d0 (h:St w0 (a::T) w):St w0 (T) w:=h.dA (A:=[])
theorem St.s1 (h:St w0 (a::b::T) w):St w0 (b::a::T) w:=h.sA (A:=[a])
theorem St.d1 (h:St w0 (a::b::T) w):St w0 (a::T) w:=h.dA (A:=[a])
theorem St.s2 (h:St w0 (a::b::c::T) w):St w0 (c::a::b::T) w:=h.sA (A:=[a,b])
theorem St.d2 (h:St w0 (a::b::c::T) w):St w0 (a::b::T) w:=h.dA (A:=[a,b])
theorem St.s3 (h:St w0 (a::b::c::d::T) w):St w0 (d::a::b::c::T) w:=h.sA (A:=[a,b,c])
theorem St.d3 (h:St w0 (a::b::c::d::T) w):St w0 (a::b::c::T) w:=h.dA (A:=[a,b,c])
theorem St.s4 (h:St w0 (a::b::c::d::e::T) w):St w0 (e::a::b::c::d::T) w:=h.sA (A:=[a,b,c,d])
theorem St.d4 (h:St w0 (a::b::c::d::e::T) w):St w0 (a::b::c::d::T) w:=h.dA (A:=[a,b,c,d])
theorem St.s5 (h:St w0 (a::b::c::d::e::f::T) w):St w0 (f::a::b::c::d::e::T) w:=h.sA (A:=[a,b,c,d,e])
theorem St.d5 (h:St w0 (a::b::c::d::e::f::T) w):St w0 (a::b::c::d::e::T) w:=h.dA (A:=[a,b,c,d,e])
theorem St.s6 (h:St w0 (a::b::c::d::e::f::g::T) w):St w0 (g::a::b::c::d::e::f::T) w:=h.sA (A:=[a,b,c,d,e,f])
theorem St.d6 (h:St w0 (a::b::c::d::e::f::g::T) w):St w0 (a::b::c::d::e::f::T) w:=h.dA (A:=[a,b,c,d,e,f])
theorem St.s7 (h:St w0 (a::b::c::d::e::f::g::i::T) w):St w0 (i::a::b::c::d::e::f::g::T) w:=h.sA (A:=[a,b,c,d,e,f,g])
theorem St.d7 (h:St w0 (a::b::c::d::e::f::g::i::T) w):St w0 (a::b::c::d::e::f::g::T) w:=h.dA (A:=[a,b,c,d,e,f,g])
theorem St.s8 (h:St w0 (a::b::c::d::e::f::g::i::j::T) w):St w0 (j::a::b::c::d::e::f::g::i::T) w:=h.sA (A:=[a,b,c,d,e,f,g,i])
theorem St.d8 (h:St w0 (a::b::c::d::e::f::g::i::j::T) w):St w0 (a::b::c::d::e::f::g::i::T) w:=h.dA (A:=[a,b,c,d,e,f,g,i])
theorem St.s9 (h:St w0 (a::b::c::d::e::f::g::i::j::k::T) w):St w0 (k::a::b::c::d::e::f::g::i::j::T) w:=h.sA (A:=[a,b,c,d,e,f,g,i,j])
theorem St.d9 (h:St w0 (a::b::c::d::e::f::g::i::j::k::T) w):St w0 (a::b::c::d::e::f::g::i::j::T) w:=h.dA (A:=[a,b,c,d,e,f,g,i,j])
theorem St.s10 (h:St w0 (a::b::c::d::e::f::g::i::j::k::l::T) w):St w0 (l::a::b::c::d::e::f::g::i::j::k::T) w:=h.sA (A:=[a,b,c,d,e,f,g,i,j,k])
theorem St.d10 (h:St w0 (a::b::c::d::e::f::g::i::j::k::l::T) w):St w0 (a::b::c::d::e::f::g::i::j::k::T) w:=h.dA (A:=[a,b,c,d,e,f,g,i,j,k])
theorem St.d11 (h:St w0 (a::b::c::d::e::f::g::i::j::k::l::m::T) w):St w0 (a::b::c::d::e::f::g::i::j::k::l::T) w:=h.dA (A:=[a,b,c,d,e,f,g,i,j,k,l])
theorem St.d12 (h:St w0 (a::b::c::d::e::f::g::i::j::k::l::m::n::T) w):St w0 (a::b::c::d::e::f::g::i::j::k::l::m::T) w:=h.dA (A:=[a,b,c,d,e,f,g,i,j,k,l,m])
end
end
end Go.Eng
