import Derived.Test.YtbhjgebjojdohaaW3t12EA
import Derived.RangeFuncRecord
import Derived.RangeFuncLeaves
set_option linter.unusedVariables false
set_option linter.unusedSimpArgs false
set_option linter.unusedSectionVars false
namespace Go.Eng
open Go Go.RowKit
def Arr {α:Type} (w:World) (sz:Nat) (f:α→List Value) (ad:Option Addr) (n cap:Nat) (l:List α):Prop:=l.length=n∧Sl w sz (.slice ad n cap) n (l.flatMap f)
def Ag (ad:Option Addr) (i:Int) (sz:Nat):Addr:=(ad.getD default).add (i.toNat*sz)
def H1 (ad:Option Addr) (m l sz:Nat):Option Addr:=if m=l then ad else ad.map (·.add (l*sz))
def arr {α:Type} (e sz:Nat) (f:α→List Value) (ad:Option Addr) (n cap:Nat) (l:List α):Res where
 foot:=fun k=>(Value.slice ad n cap).ownBlock=some k
 holds:=fun w=>l.length=n∧w.ownsRow 0 e sz (.slice ad n cap) n (l.flatMap f)
 loc:=fun w w' h hb=>⟨hb.1,(vec (.slice ad n cap) e sz n (l.flatMap f)).loc w w' h hb.2⟩
 lt:=fun _ k hb hk=>(hb.2.lt k hk).2
section
variable {P:Program} {w w':World} {α:Type} {sz n cap:Nat} {f:α→List Value} {ad:Option Addr} {l:List α} {cs:List Cd}
theorem Arr.nil:Arr w sz f none 0 0 ([]:List α):=⟨rfl,Sl.nil w sz⟩
theorem Arr.len (h:Arr w sz f ad n cap l):l.length=n:=h.1
theorem Arr.le (h:Arr w sz f ad n cap l):n≤cap∧cap≤9223372036854775807:=by
 obtain ⟨_,ad',cap',e,_,h3,h4,_⟩:=h
 cases e
 simp only [maxLen] at h4;exact ⟨h3,by omega⟩
theorem Arr.cells (hf:∀x,(f x).length=sz) (h:Arr w sz f ad n cap l) {i:Int} (h0:0≤i) (hi:i<n) (d:α):∃a,ad=some a∧∀j u,(f (l.getD i.toNat d))[j]? = some u→w.cell? ((Ag ad i sz).add j)=some u:=by
 obtain ⟨hl,ad',cap',e,_,_,_,h5⟩:=h
 cases e
 obtain ⟨a,rfl,_,h8⟩:=h5 (by omega);have hlt:i.toNat<l.length:=by omega
 have hg:l[i.toNat]? = some (l.getD i.toNat d):=by rw [List.getD_eq_getElem?_getD,List.getElem?_eq_getElem hlt];rfl
 refine ⟨a,rfl,fun j u hu=>?_⟩;have hj:j<sz:=by have:=(List.getElem?_eq_some_iff.1 hu).1;rw [hf] at this;exact this
 have:=h8 (i.toNat*sz+j) u (by rw [C2 hf l i.toNat j _ hg hj];exact hu);show w.cell? ((a.add (i.toNat*sz)).add j)=some u;rw [Jb];exact this
theorem A1p {T:World→World→Prop} {D:World→Prop} {t:Nat} {i:Int} (h:Arr w sz f ad n cap l) (ht:Eo P t sz=true) (hb:Ak cs=true→0≤i∧i<n) :
  Ob.ok P T D (.run cs (Instr.indexAt t (.slice ad n cap) (.int .i64 i)) (.pointer (some (Ag ad i sz)))):=by
 intro hk w' _;obtain ⟨h0,hi⟩:=hb hk;obtain ⟨_,ad',cap',e,_,_,_,h5⟩:=h
 cases e
 obtain ⟨a,rfl,_,_⟩:=h5 (by omega);obtain ⟨e',inf,hu,hinf,hs⟩:=G8 ht;simp [Instr.indexAt,asIntOf,run_underlying hu,sizeOf,typeInfo,hinf,hs,h0,hi,Ag]
theorem Kz {t lo hi mx:Nat} {vlo vhi vmx:Option Value} (ht:Eo P t sz=true) (hb:∀w,(Instr.sliceBounds true n cap vlo vhi vmx).run P w=.ok (lo,hi,mx) w) (w:World) :
  (Instr.sliceAt t (.slice ad n cap) vlo vhi vmx).run P w=.ok (.slice (H1 ad mx lo sz) (hi-lo) (mx-lo)) w:=by
 obtain ⟨e',inf,hu,hinf,hs⟩:=G8 ht;simp [Instr.sliceAt,Instr.slice,run_underlying hu,hb,sizeOf,typeInfo,hinf,hs,H1]
theorem Wr {lo:Nat} (h:lo≤n) (w:World):(Instr.sliceBounds true n cap (some (.int .i64 (lo:Int))) none none).run P w=.ok (lo,n,cap) w:=by
 simp [Instr.sliceBounds,Instr.sliceBound,asIntOf,h]
theorem Xj {T:World→World→Prop} {D:World→Prop} {t lo:Nat} (ht:Eo P t sz=true) (h:Ak cs=true→lo≤n) :
  Ob.ok P T D (.run cs (Instr.sliceAt t (.slice ad n cap) (some (.int .i64 (lo:Int))) none none) (.slice (H1 ad cap lo sz) (n-lo) (cap-lo))):=fun hk w' _=>Kz ht (Wr (h hk)) w'
end
section
variable {P:Program} {r:Option Nat} {ops:Array Oper} {Q:Exit→Act→World→Prop} {N:Nat} {ds:List Deferred} {M:List (Nat×Value)} {a:Act} {w w0 w':World} {H:List Res} {α:Type} {e sz n cap:Nat} {f:α→List Value} {ad:Option Addr} {l:List α} {cs:List Cd}
theorem St.arr {i:Nat} (h:St w0 H w) (hi:H[i]? = some (arr e sz f ad n cap l)):Arr w sz f ad n cap l:=by
 have:=h.holds _ (List.mem_of_getElem? hi);exact ⟨this.1,Sl.of_own this.2⟩
theorem St.nilarr (h:St w0 H w) (e sz:Nat) (f:α→List Value):St w0 (Go.Eng.arr e sz f none 0 0 ([]:List α)::H) w :=
 h.push (Ext.refl w) ⟨rfl,World.ownsRow_nil w 0 e sz⟩ (fun b hb=>by simp [Go.Eng.arr,Value.ownBlock] at hb)
theorem St.blk_arr {b:Nat} {cs:Array Value} (h:St w0 (Go.Eng.blk b e cs::H) w) (hf:∀x,(f x).length=sz) (hl:l.length=n) (hc:l.flatMap f=cs.toList) (hn:n≤maxLen):St w0 (Go.Eng.arr e sz f (some ⟨b,0,none⟩) n n l::H) w:=by
 refine h.conv ⟨hl,?_⟩ (fun k hk=>by simp [Go.Eng.arr,Value.ownBlock] at hk;exact hk.symm);rw [hc];refine U0 (h.holds _ (List.mem_cons_self ..)) ?_ hn;have:=C6 hf l;rw [hc,hl] at this
 simpa using this
end
end Go.Eng
namespace Go.Eng
open Go Go.RowKit
section
variable {P:Program} {w w':World}
theorem Xf {t:Nat} {p:Addr} {cs:List Value} (ht:Ea P t=some cs.length) (h:∀j u,cs[j]? = some u→w.cell? (p.add j)=some u):(loadVar t p).run P w=.ok (.agg cs.toArray) w:=by
 have:=Fk ht h
 simpa [Instr.loadAt,Instr.sureAddr] using this
structure Fresh {α:Type} (w w':World) (e sz:Nat) (f:α→List Value) (ad:Option Addr) (n cap:Nat) (l:List α):Prop where
 holds:(arr e sz f ad n cap l).holds w'
 foot:∀b,(arr e sz f ad n cap l).foot b→w.heap.size≤b
theorem Fresh.of {α:Type} {e sz n cap i:Nat} {f:α→List Value} {ad:Option Addr} {l:List α} {H:List Res} (h:St w H w') (hi:H[i]? = some (Go.Eng.arr e sz f ad n cap l)):Fresh w w' e sz f ad n cap l :=
 ⟨h.holds _ (List.mem_of_getElem? hi),h.low _ (List.mem_of_getElem? hi)⟩
end
end Go.Eng
namespace Go.Eng
open Go Go.RowKit
def D8 (ops:Array Oper):Nat→Nat→Option Nat
 | 0,_=>none
 | i+1,t=>match dstAt ops i with
  | some d=>bif Nat.beq d t then some i else D8 ops i t
  | none=>D8 ops i t
def E7 (ops:Array Oper) (a0:Act) (σ:Nat→Value) (i t:Nat):Value :=
 match D8 ops i t with
 | some j=>σ j
 | none=>a0.tmps.getD t undef
theorem F2 {ops:Array Oper}:∀{i t j:Nat},D8 ops i t=some j→j<i∧dstAt ops j=some t∧∀k,j<k→k<i→dstAt ops k≠some t:=by
 intro i
 induction i with
 | zero=>intro t j h;simp [D8] at h
 | succ i ih =>
  intro t j h;simp only [D8] at h;have rec_:D8 ops i t=some j→dstAt ops i≠some t→j<i+1∧dstAt ops j=some t∧∀k,j<k→k<i+1→dstAt ops k≠some t:=by
   intro h' hne;obtain ⟨h1,h2,h3⟩:=ih h';exact ⟨by omega,h2,fun k hk hki=>by
    rcases Nat.lt_or_ge k i with hlt|hge
    ·exact h3 k hk hlt
    ·have:k=i:=by omega
     rw [this];exact hne⟩
  cases hd:dstAt ops i with
  | none=>rw [hd] at h;exact rec_ h (by rw [hd];simp)
  | some d =>
   rw [hd] at h;simp only at h
   cases hb:Nat.beq d t with
   | true =>
    rw [hb] at h;simp at h;subst h;rw [Nat.beq_eq] at hb;exact ⟨by omega,by rw [hd,hb],fun k hk hki=>by omega⟩
   | false =>
    rw [hb] at h;simp at h;exact rec_ h (by rw [hd];intro e;cases e;simp at hb)
theorem J5 {ops:Array Oper}:∀{i t:Nat},D8 ops i t=none→∀k,k<i→dstAt ops k≠some t:=by
 intro i
 induction i with
 | zero=>intro t _ k hk;omega
 | succ i ih =>
  intro t h k hk;simp only [D8] at h;have rec_:D8 ops i t=none→dstAt ops i≠some t→dstAt ops k≠some t:=by
   intro h' hne;rcases Nat.lt_or_ge k i with hlt|hge
   ·exact ih h' k hlt
   ·have:k=i:=by omega
    rw [this];exact hne
  cases hd:dstAt ops i with
  | none=>rw [hd] at h;exact rec_ h (by rw [hd];simp)
  | some d =>
   rw [hd] at h;simp only at h
   cases hb:Nat.beq d t with
   | true=>rw [hb] at h;simp at h
   | false=>rw [hb] at h;simp at h;exact rec_ h (by rw [hd];intro e;cases e;simp at hb)
def Fu (σ:Nat→Value) (i:Nat) (v:Value):Nat→Value:=fun k=>if k=i then v else σ k
def OpGB (P:Program) (r:Option Nat) (ops:Array Oper) (o:Oper) (a:Act) (w:World) (R:Value→World→Prop) (B:List PanicEntry→World→Prop):Prop :=
 OpG P r ops o a w R∨(Region.wanted o (yielded ops a.tmps)=true∧∃f args w',(o.semAt r a.eval).run P w=.ok (.enter f args) w'∧Calls P f args w' (fun e w''=>(∃v,e=.returned v∧R v w'')∨∃ch,e=.panicked ch∧B ch w''))
def We (P:Program) (r:Option Nat) (ops:Array Oper) (m N:Nat) (a0:Act) (B:List PanicEntry→World→Prop) (G:(Nat→Bool)→(Nat→Value)→World→Prop):Prop :=
 ∀(S:Nat→Bool) (σ:Nat→Value) (a:Act) (w:World) (i:Nat) (o:Oper),i<m→ops[i]? = some o→S i=false→(∀j,Anc ops j i→S j=true)→(∀j k,S k=true→Anc ops j k→S j=true)→(∀k,S k=true→k<m) →
  a.tmps.size=N→a.defers=a0.defers→G S σ w→(∀t∈o.looksAt ops,a.tmps.getD t undef=E7 ops a0 σ i t)→OpGB P r ops o a w (fun v w'=>G (fun k=>S k||Nat.beq k i) (Fu σ i v) w') B
section
variable {P:Program} {r:Option Nat} {ops:Array Oper} {Q:Exit→Act→World→Prop} {N:Nat} {B:List PanicEntry→World→Prop}
theorem OpGB.wpOpIn {o:Oper} {i:Nat} {a:Act} {w:World} {R:Value→World→Prop} {K:Act→World→Prop} (ho:ops[i]? = some o) (h:OpGB P r ops o a w R B)
  (hk:∀v w',R v w'→K (a.put o.dst v) w') (hb:∀ch w',B ch w'→Q (.panic ch) a w'):wpOpIn (F0 r) 0 P ops Q i K a w:=by
 rcases h with h|⟨hw,f,args,w',hr,hc⟩
 ·exact h.wpOpIn ho hk
 ·unfold Go.wpOpIn;rw [ho];simp only [hw,if_true];refine ⟨fun _ _=>trivial,?_⟩
  change o.uponIn (F0 r) 0 P a K Q ((o.semAt r a.eval).run P w)
  rw [hr];refine ⟨fun h=>by simp [F0,Fence.wide] at h,E3.2 (Calls.mono hc ?_)⟩;rintro e w'' (⟨v,rfl,hv⟩|⟨ch,rfl,hv⟩)
  ·exact hk v w'' hv
  ·exact hb ch w'' hv
theorem OpGB.mono {o:Oper} {a:Act} {w:World} {R R':Value→World→Prop} (h:OpGB P r ops o a w R B) (hr:∀v w',R v w'→R' v w'):OpGB P r ops o a w R' B:=by
 rcases h with h|⟨hw,f,args,w',h1,hc⟩
 ·exact .inl (h.mono hr)
 ·refine .inr ⟨hw,f,args,w',h1,Calls.mono hc ?_⟩;rintro e w'' (⟨v,rfl,hv⟩|h)
  ·exact .inl ⟨v,rfl,hr _ _ hv⟩
  ·exact .inr h
structure GInv (ops:Array Oper) (m:Nat) (a0:Act) (G:(Nat→Bool)→(Nat→Value)→World→Prop) (N:Nat) (S:Array Bool) (σ:Nat→Value) (a:Act) (w:World):Prop where
 ssz:S.size=ops.size
 low:∀i,S.getD i false=true→i<m
 closed:Closed ops S
 sz:a.tmps.size=N
 dfs:a.defers=a0.defers
 g:G (fun k=>S.getD k false) σ w
 last:∀i d,S.getD i false=true→dstAt ops i=some d→(∀k,i<k→S.getD k false=true→dstAt ops k≠some d)→a.tmps.getD d undef=σ i
 base:∀t,(∀i,S.getD i false=true→dstAt ops i≠some t)→a.tmps.getD t undef=a0.tmps.getD t undef
theorem Fx {k:Nat} {d:Tmp} (h:dstAt ops k=some d):∃y,ops[k]? = some y∧y.dst=some d:=by
 unfold dstAt at h
 cases hy:ops[k]? with
 | none=>rw [hy] at h;simp at h
 | some y=>rw [hy] at h;exact ⟨y,rfl,by simpa using h⟩
theorem Sz {m:Nat} {a0:Act} {G:(Nat→Bool)→(Nat→Value)→World→Prop} (hdst:Al ops N=true) (hord:F9 ops m=true) (htail:E9 ops m=true) (hedge:Cf ops=true) (hmn:m≤ops.size)
  (hB:∀ch a w,a.defers=a0.defers→B ch w→Q (.panic ch) a w) (hstep:We P r ops m N a0 B G)
  (hK:∀a' w' σ,a'.tmps.size=N→a'.defers=a0.defers→G (fun k=>Nat.blt k m) σ w'→(∀t,a'.tmps.getD t undef=E7 ops a0 σ m t)→WI P r ops Q m a' w') (hG:∀S S' σ w,(∀k,S k=S' k)→G S σ w→G S' σ w) :
  ∀(fuel:Nat) (S:Array Bool) (σ:Nat→Value) (a:Act) (w:World),GInv ops m a0 G N S σ a w→S.toList.count false≤fuel→wpAnyIn (F0 r) 0 P .any ops Q fuel S a w:=by
 have conf:∀{i j:Nat} {x y:Oper},i<j→j<m→ops[i]? = some x→ops[j]? = some y→((∃d,x.dst=some d∧d∈y.looksAt ops)∨(∃d,x.dst=some d∧y.dst=some d)∨(∃d,y.dst=some d∧d∈x.looksAt ops))→Anc ops i j:=by
  intro i j x y hij hj hx hy hc;rcases G6 hord hij hj hx hy with h|h
  ·have hs:=Oper.apart_spec h;rcases hc with ⟨d,h1,h2⟩|⟨d,h1,h2⟩|⟨d,h1,h2⟩
   ·exact absurd h2 (hs.1 d h1)
   ·exact absurd h2 (hs.2.1 d h1)
   ·exact absurd h2 (hs.2.2 d h1)
  ·exact h
 have full:∀(S:Array Bool) (σ:Nat→Value) (a:Act) (w:World),GInv ops m a0 G N S σ a w→(∀i,i<m→S.getD i false=true)→WI P r ops Q m a w:=by
  intro S σ a w hI hall;refine hK a w σ hI.sz hI.dfs (hG _ _ σ w (fun k=>?_) hI.g) ?_
  ·by_cases hk:k<m
   ·rw [hall k hk];exact (Nat.blt_eq.mpr hk).symm
   ·have h1:S.getD k false=false:=by
     cases hb:S.getD k false with
     | false=>rfl
     | true=>exact absurd (hI.low k hb) hk
    have h2:Nat.blt k m=false:=by
     cases hb:Nat.blt k m with
     | false=>rfl
     | true=>exact absurd (Nat.blt_eq.mp hb) hk
    rw [h1,h2]
  ·intro t;unfold E7
   cases hs:D8 ops m t with
   | some j =>
    obtain ⟨h1,h2,h3⟩:=F2 hs;exact hI.last j t (hall j h1) h2 (fun k hk hSk=>h3 k hk (hI.low k hSk))
   | none=>exact hI.base t (fun i hi=>J5 hs i (hI.low i hi))
 intro fuel
 induction fuel with
 | zero =>
  intro S σ a w hI hcnt;have hall:∀i,i<ops.size→S.getD i false=true:=by
   intro i hi
   cases hb:S.getD i false with
   | true=>rfl
   | false =>
    have hti:S.getD i true=false:=by
     rw [Array.getD_eq_getD_getElem?] at hb ⊢;rw [Array.getElem?_eq_getElem (by rw [hI.ssz];exact hi)] at hb ⊢
     simpa using hb
    have:=Kf (Ds hti);omega
  have hmeq:m=ops.size:=by
   rcases Nat.lt_or_ge m ops.size with h|h
   ·have:=hI.low m (hall m h);omega
   ·omega
  have hW:=full S σ a w hI (fun i hi=>hall i (by omega));refine Jc hedge htail 0 m S a w (Nat.le_refl _) hI.ssz hI.closed (fun i=>?_) (by omega) (by omega) hW;exact ⟨fun h=>⟨hI.low i h,by have:=hI.low i h;omega⟩,fun h=>hall i h.2⟩
 | succ fuel ih =>
  intro S σ a w hI hcnt;refine ⟨fun h0=>?_,fun i hi=>?_⟩
  ·have hall:=Fv hedge hI.ssz h0;have hmeq:m=ops.size:=by
    rcases Nat.lt_or_ge m ops.size with h|h
    ·have:=hI.low m (hall m h);omega
    ·omega
   have hW:=full S σ a w hI (fun i hi=>hall i (by omega));rw [hmeq] at hW
   simpa [WI,wpOpsIn] using hW
  ·obtain ⟨h0,o,ho,hedges⟩:=mem_ready.1 hi;have hin:i<ops.size:=(Array.getElem?_eq_some_iff.1 ho).1;have hiS:S.getD i false=false:=Dj h0
   by_cases him:i<m
   ·have hd:dstAt ops i=o.dst:=by simp [dstAt,ho]
    have hlook:∀t∈o.looksAt ops,a.tmps.getD t undef=E7 ops a0 σ i t:=by
     intro t ht;have later:∀k,i<k→S.getD k false=true→dstAt ops k≠some t:=by
      intro k hk hSk hdk;obtain ⟨y,hy,hyd⟩:=Fx hdk;have:=(conf hk (hI.low k hSk) ho hy (.inr (.inr ⟨t,hyd,ht⟩))).listed hI.closed hSk;rw [hiS] at this;cases this
     unfold E7
     cases hs:D8 ops i t with
     | some j =>
      obtain ⟨h1,h2,h3⟩:=F2 hs;obtain ⟨x,hx,hxd⟩:=Fx h2;have hSj:=(conf h1 him hx ho (.inl ⟨t,hxd,ht⟩)).ready hI.closed hi;refine hI.last j t hSj h2 (fun k hk hSk=>?_);rcases Nat.lt_trichotomy k i with hki|hki|hki
      ·exact h3 k hk hki
      ·subst hki;rw [hiS] at hSk;cases hSk
      ·exact later k hki hSk
     | none =>
      refine hI.base t (fun k hSk=>?_);rcases Nat.lt_trichotomy k i with hki|hki|hki
      ·exact J5 hs k hki
      ·subst hki;rw [hiS] at hSk;cases hSk
      ·exact later k hki hSk
    refine (hstep (fun k=>S.getD k false) σ a w i o him ho hiS (fun j hj=>hj.ready hI.closed hi) (fun j k hk hj=>hj.listed hI.closed hk) (fun k hk=>hI.low k hk) hI.sz hI.dfs hI.g hlook).wpOpIn ho ?_ (fun ch w' hb=>hB ch a w' hI.dfs hb);intro v w' hg;refine ih _ (Fu σ i v) _ _ ?_ ?_
    ·refine ⟨by simp [hI.ssz],fun j hj=>?_,hI.closed.set hi,by rw [Ex];exact hI.sz,by rw [Dq];exact hI.dfs,hG _ _ _ _ (fun k=>?_) hg,?_,?_⟩
     ·by_cases hij:i=j
      ·subst hij;exact him
      ·rw [getD_set_ne false hij] at hj;exact hI.low j hj
     ·by_cases hik:i=k
      ·subst hik;rw [Cm (by rw [hI.ssz];exact hin)];simp
      ·rw [getD_set_ne false hik];have:Nat.beq k i=false:=by
        cases hb:Nat.beq k i with
        | false=>rfl
        | true=>rw [Nat.beq_eq] at hb;exact absurd hb.symm hik
       rw [this,Bool.or_false]
     ·intro j d hSj hdj hlast
      by_cases hij:i=j
      ·subst hij;rw [hd] at hdj;rw [hdj,Fq (by rw [hI.sz];exact D3 hdst ho hdj)];simp [Fu]
      ·rw [getD_set_ne false hij] at hSj;have hne:o.dst≠some d:=by
        intro hod;rcases Nat.lt_or_ge j i with hji|hji
        ·exact hlast i hji (Cm (by rw [hI.ssz];exact hin)) (by rw [hd];exact hod)
        ·obtain ⟨y,hy,hyd⟩:=Fx hdj;have:=(conf (show i<j by omega) (hI.low j hSj) ho hy (.inr (.inl ⟨d,hod,hyd⟩))).listed hI.closed hSj;rw [hiS] at this;cases this
       rw [Du hne,hI.last j d hSj hdj (fun k hk hSk=>hlast k hk (getD_set_true hSk))];simp [Fu,Ne.symm hij]
     ·intro t hnone;have hne:o.dst≠some t:=fun e=>hnone i (Cm (by rw [hI.ssz];exact hin)) (by rw [hd];exact e);rw [Du hne];exact hI.base t (fun k hk=>hnone k (getD_set_true hk))
    ·have h1:=Kg S.toList i (Ds h0);have h2:(S.setIfInBounds i true).toList=S.toList.set i true:=by simp
     rw [h2];omega
   ·have hall:∀j,j<i→S.getD j false=true:=fun j hj=>(H2 htail (by omega) hin hj).ready hI.closed hi;have him':i=m:=by
     rcases Nat.lt_or_ge m i with h|h
     ·have:=hI.low m (hall m h);omega
     ·omega
    have hW:=full S σ a w hI (fun j hj=>hall j (by omega));have hSiff:∀j,S.getD j false=true↔j<m∧j<ops.size:=fun j=>⟨fun h=>⟨hI.low j h,by have:=hI.low j h;omega⟩,fun h=>hall j (by omega)⟩;have hle:ops.size≤m+(fuel+1):=by
     have:∀(n k:Nat) (l:List Bool),l.length=n→(∀j,k≤j→j<n→l[j]? = some false)→n≤k+l.count false:=by
      intro n
      induction n with
      | zero=>intro k l _ _;omega
      | succ n ihn =>
       intro k l hl hf
       cases l with
       | nil=>simp at hl
       | cons b l =>
        cases k with
        | zero =>
         have h0':=hf 0 (Nat.le_refl _) (by omega);simp at h0';subst h0';have:=ihn 0 l (by simpa using hl) (fun j _ hj=>by simpa using hf (j+1) (by omega) (by omega));simp;omega
        | succ k =>
         have:=ihn k l (by simpa using hl) (fun j hj hjn=>by simpa using hf (j+1) (by omega) (by omega));have hcl:l.count false≤(b::l).count false:=by cases b<;>simp
         omega
     have:=this ops.size m S.toList (by simpa using hI.ssz) (fun j hj hjn=>by
      have hnot:¬S.getD j false=true:=fun h=>by have:=hI.low j h;omega
      rw [Array.getElem?_toList];rw [Array.getD_eq_getD_getElem?,Array.getElem?_eq_getElem (by rw [hI.ssz];exact hjn)] at hnot;rw [Array.getElem?_eq_getElem (by rw [hI.ssz];exact hjn)]
      simpa using hnot)
     omega
    exact (Jc hedge htail (fuel+1) m S a w (Nat.le_refl _) hI.ssz hI.closed hSiff hle hmn hW).2 i hi
theorem Qs {id m:Nat} {a:Act} {w:World} {G:(Nat→Bool)→(Nat→Value)→World→Prop} (hmo:P.follows .mixedOrders=true) (hdst:Al ops N=true) (hord:F9 ops m=true) (htail:E9 ops m=true)
  (hedge:Cf ops=true) (hmn:m≤ops.size) (hB:∀ch a' w,a'.defers=a.defers→B ch w→Q (.panic ch) a' w) (hstep:We P r ops m N a B G) (hN:a.tmps.size=N) (hG:∀S S' σ w,(∀k,S k=S' k)→G S σ w→G S' σ w) (σ0:Nat→Value) (h0:G (fun _=>false) σ0 { w with drawn:=w.drawn+1 })
  (hK:∀a' w' σ,a'.tmps.size=N→a'.defers=a.defers→G (fun k=>Nat.blt k m) σ w'→(∀t,a'.tmps.getD t undef=E7 ops a σ m t)→WI P r ops Q m a' w'):WP P r (.region id ops true) Q a w:=by
 refine wpIn_region_any hmo ?_;have hnone:∀i,(Array.replicate ops.size false).getD i false=false:=by
  intro i
  cases hb:(Array.replicate ops.size false).getD i false with
  | false=>rfl
  | true =>
   have:=Cw hb;simp at this;simp [this] at hb
 have hno:∀i,¬(Array.replicate ops.size false).getD i false=true:=fun i h=>by rw [hnone i] at h;cases h
 refine Sz hdst hord htail hedge hmn hB hstep hK hG ops.size _ σ0 a _ ⟨by simp,fun i h=>absurd h (hno i),fun i o e h=>absurd h (hno i),hN,rfl,hG _ _ _ _ (fun k=>(hnone k).symm) h0,fun i d h=>absurd h (hno i),fun t _=>rfl⟩ ?_;refine Nat.le_trans List.count_le_length ?_;simp
end
end Go.Eng
namespace Go.Eng
open Go Go.RowKit
section
variable {P:Program} {r:Option Nat} {ops:Array Oper} {Q:Exit→Act→World→Prop} {N:Nat} {ds:List Deferred} {M:List (Nat×Value)} {ch:List Nat} {vals:List Value}
structure Tok where
 prod:Option Nat
 cons:Option Nat
 res:Value→Res
def Tok.at (k:Tok) (σ:Nat→Value):Res:=match k.prod with|some p=>k.res (σ p)|none=>k.res undef
end
end Go.Eng
namespace Go.Eng
open Go Go.RowKit
section
variable {P:Program} {r:Option Nat} {ops:Array Oper} {N:Nat} {ds:List Deferred} {M:List (Nat×Value)} {a:Act} {w w0:World} {F H:List Res} {α:Type} {e sz n:Nat} {f:α→List Value} {l l':List α} {o:Oper} {c:Nat}
end
end Go.Eng
namespace Go.Eng
open Go Go.RowKit
section
variable {w w0:World} {F:List Res} {R S:Res} {α:Type} {e sz n cap:Nat} {f:α→List Value} {l:List α} {ad:Option Addr}
end
end Go.Eng
namespace Go.Eng
open Go Go.RowKit
structure SlV where
 ad:Option Addr
 n:Nat
 cap:Nat
instance:Inhabited SlV:=⟨⟨none,0,0⟩⟩
def Res.none:Res where
 foot:=fun _=>False
 holds:=fun _=>True
 loc:=fun _ _ _ h=>h
 lt:=fun _ _ _ h=>h.elim
section
variable {w w0:World} {R S:Res} {H:List Res}
structure Made (w w':World) (R:Res):Prop where
 holds:R.holds w'
 foot:∀b,R.foot b→w.heap.size≤b
theorem Made.of {i:Nat} (h:St w H w0) (hi:H[i]? = some R):Made w w0 R:=⟨h.holds _ (List.mem_of_getElem? hi),h.low _ (List.mem_of_getElem? hi)⟩
theorem St.res {i:Nat} (h:St w0 H w) (hi:H[i]? = some R):R.holds w:=h.holds _ (List.mem_of_getElem? hi)
theorem St.pick (is:List Nat) (hn:is.Nodup) (h:St w0 H w):St w0 (is.filterMap fun i=>H[i]?) w:=by
 have hm:∀R,R∈is.filterMap (fun i=>H[i]?)→R∈H:=fun R hR=>by
  obtain ⟨i,_,hi⟩:=List.mem_filterMap.1 hR;exact List.mem_of_getElem? hi
 refine ⟨h.ext,fun R hR=>h.holds R (hm R hR),fun R hR=>h.low R (hm R hR),?_⟩;rw [List.pairwise_filterMap];refine hn.imp ?_;intro i j hij R hR S hS b h1 h2;have hi:=List.getElem?_eq_some_iff.1 hR;have hj:=List.getElem?_eq_some_iff.1 hS;rcases Nat.lt_or_gt_of_ne hij with hlt|hgt
 ·have:=List.pairwise_iff_getElem.1 h.apart i j hi.1 hj.1 hlt b;rw [hi.2,hj.2] at this;exact this h1 h2
 ·have:=List.pairwise_iff_getElem.1 h.apart j i hj.1 hi.1 hgt b;rw [hi.2,hj.2] at this;exact this h2 h1
theorem St.madeL {w':World} {H':List Res} (h:St w0 H w) (hR:St w H' w'):St w0 (H'++H) w':=by
 have h':=h.later hR.ext;refine ⟨h'.ext,fun T hT=>?_,fun T hT b hb=>?_,List.pairwise_append.2 ⟨hR.apart,h'.apart,fun U hU T hT b hb hb'=>?_⟩⟩
 ·rcases List.mem_append.1 hT with hT|hT
  ·exact hR.holds T hT
  ·exact h'.holds T hT
 ·rcases List.mem_append.1 hT with hT|hT
  ·exact Nat.le_trans h.ext.size (hR.low T hT b hb)
  ·exact h'.low T hT b hb
 ·have:=T.lt w b (h.holds T hT) hb';have:=hR.low U hU b hb;omega
end
end Go.Eng
namespace Go.Eng
open Go Go.RowKit
section
variable {P:Program} {w w0:World} {H:List Res}
end
section
variable {P:Program} {ops:Array Oper} {Q:Exit→Act→World→Prop} {N:Nat} {ds:List Deferred} {M:List (Nat×Value)} {a:Act} {w w0:World} {H:List Res}
theorem St.pickT {A T:List Res} (is:List Nat) (hn:is.Nodup) (h:St w0 (A++T) w):St w0 ((is.filterMap fun i=>A[i]?)++T) w:=by
 have hm:∀R,R∈is.filterMap (fun i=>A[i]?)→R∈A:=fun R hR=>by
  obtain ⟨i,_,hi⟩:=List.mem_filterMap.1 hR;exact List.mem_of_getElem? hi
 have hm2:∀R,R∈is.filterMap (fun i=>A[i]?)++T→R∈A++T:=fun R hR=>by
  rcases List.mem_append.1 hR with hR|hR
  ·exact List.mem_append_left _ (hm R hR)
  ·exact List.mem_append_right _ hR
 have hp:=List.pairwise_append.1 h.apart;have hA:St w0 A w:=h.sub (List.sublist_append_left ..);exact ⟨h.ext,fun R hR=>h.holds R (hm2 R hR),fun R hR=>h.low R (hm2 R hR),List.pairwise_append.2 ⟨(hA.pick is hn).apart,hp.2.1,fun R hR S hS=>hp.2.2 R (hm R hR) S hS⟩⟩
theorem St.dA {A T:List Res} {R:Res} (h:St w0 (A++R::T) w):St w0 (A++T) w:=h.sub (List.Sublist.append_left (List.sublist_cons_self ..) A)
section
variable {a b c d e f g i j k l m n o p:Res} {T:List Res}
theorem St.d0 (h:St w0 (a::T) w):St w0 (T) w:=h.dA (A:=[])
theorem St.d1 (h:St w0 (a::b::T) w):St w0 (a::T) w:=h.dA (A:=[a])
theorem St.d2 (h:St w0 (a::b::c::T) w):St w0 (a::b::T) w:=h.dA (A:=[a,b])
theorem St.d3 (h:St w0 (a::b::c::d::T) w):St w0 (a::b::c::T) w:=h.dA (A:=[a,b,c])
end
end
end Go.Eng
