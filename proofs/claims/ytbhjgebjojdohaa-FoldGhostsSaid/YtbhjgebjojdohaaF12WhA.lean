import Derived.Test.YtbhjgebjojdohaaF12XD
import Derived.Test.YtbhjgebjojdohaaW3t12VB
namespace Go.Proofs.Ytbhjgebjojdohaa
open Go Go.RowKit Go.Eng
set_option linter.unusedVariables false
set_option maxRecDepth 10000
def bn (N:List Nat) (x:Int):Nat:=N.getD x.toNat 0
def ap (N:List Nat) (x:Int):Value:=.pointer (if x<0 then none else some ⟨bn N x,0,none⟩)
def apF (N:List Nat) (x:Int):List Value:=[ap N x]
theorem As (N:List Nat) (x:Int):(apF N x).length=1:=rfl
theorem C1 {N:List Nat} {x:Int} (h:0≤x):ap N x=pb (bn N x):=by unfold ap;rw [if_neg (by omega)]
theorem Q0 {N:List Nat} {x:Int} (h:x<0):ap N x=.pointer none:=by unfold ap;rw [if_pos h]
theorem F5 {N:List Nat} {x:Int} (h:0≤x):(apF N x)[0]? = some (pb (bn N x)):=by unfold apF;rw [C1 h];rfl
abbrev acs (N:List Nat) (x:arcP):Array Value:=#[iv x.to,iv x.room,ap N x.twin]
def arL (M N:List Nat) (A:List arcP):List Res:=List.zipWith (fun b x=>blk b 160 (acs M x)) N A
def Ad (N:List Nat) (A:List arcP):Res:=Mc (arL N N A)
theorem C0 {α:Type} {l:List α} {i:Int} {x:α} (h:getI l i=some x):0≤i∧i.toNat<l.length∧l[i.toNat]? = some x:=by
 unfold getI at h
 split at h
 ·exact ⟨‹_›,(List.getElem?_eq_some_iff.1 h).1,h⟩
 ·cases h
theorem T2 {N:List Nat} {i:Nat} (h:i<N.length):N[i]? = some (N.getD i 0):=by
 rw [List.getD_eq_getElem?_getD,List.getElem?_eq_getElem h];rfl
theorem Je {M N:List Nat} {A:List arcP} {i:Nat} {x:arcP} (hl:N.length=A.length) (hx:A[i]? = some x):(arL M N A)[i]? = some (blk (N.getD i 0) 160 (acs M x)):=by
 unfold arL;rw [List.getElem?_zipWith,T2 (by rw [hl];exact (List.getElem?_eq_some_iff.1 hx).1),hx]
theorem Yh (M N:List Nat) (A:List arcP) (i:Nat) (x:arcP) (hi:i<N.length):arL M N (A.set i x)=(arL M N A).set i (blk (N.getD i 0) 160 (acs M x)):=by
 unfold arL;apply List.ext_getElem?;intro j;rw [List.getElem?_zipWith,List.getElem?_set,List.getElem?_set,List.length_zipWith,List.getElem?_zipWith]
 by_cases hij:i=j
 ·subst hij
  by_cases h2:i<A.length
  ·have h3:i<min N.length A.length:=by omega
   rw [if_pos rfl,if_pos h2,if_pos rfl,if_pos h3,T2 hi]
  ·have h3:¬i<min N.length A.length:=by omega
   rw [if_pos rfl,if_neg h2,if_pos rfl,if_neg h3,T2 hi]
 ·rw [if_neg hij,if_neg hij]
section
variable {w w0:World} {N:List Nat} {A:List arcP} {H:List Res}
theorem Kd {i:Nat} {x:arcP} (h:(Ad N A).holds w) (hl:N.length=A.length) (hx:A[i]? = some x):Blk w (N.getD i 0) 160 (acs N x):=h.1 _ (List.mem_of_getElem? (Je hl hx))
theorem Bd {i:Int} {j:Nat} {x:arcP} {v:Value} (h:(Ad N A).holds w) (hl:N.length=A.length) (hx:getI A i=some x) (hj:(acs N x)[j]? = some v):w.cell? ⟨bn N i,j,none⟩=some v:=by
 have:Blk w (bn N i) 160 (acs N x):=Kd h hl (C0 hx).2.2;rw [cell_of_row w _ j _ 160 (0,0) this];exact hj
theorem Wn {i j:Nat} (h:(Ad N A).holds w) (hl:N.length=A.length) (hi:i<A.length) (hj:j<A.length) (hne:i≠j):N.getD i 0≠N.getD j 0:=by
 have hp:=List.pairwise_iff_getElem.1 h.2;have key:∀i j:Nat,i<A.length→j<A.length→i<j→N.getD i 0≠N.getD j 0:=by
  intro i j hi hj hlt e;have h1:=Je (M:=N) hl (List.getElem?_eq_getElem hi);have h2:=Je (M:=N) hl (List.getElem?_eq_getElem hj);obtain ⟨l1,e1⟩:=List.getElem?_eq_some_iff.1 h1;obtain ⟨l2,e2⟩:=List.getElem?_eq_some_iff.1 h2;have:=hp i j l1 l2 hlt (N.getD i 0);rw [e1,e2] at this;exact this rfl e
 rcases Nat.lt_or_gt_of_ne hne with h1|h1
 ·exact key i j hi hj h1
 ·exact fun e=>key j i hj hi h1 e.symm
theorem Zx {i j:Int} (h:(Ad N A).holds w) (hl:N.length=A.length) (hi:0≤i∧i<(A.length:Int)) (hj:0≤j∧j<(A.length:Int)) (hne:i≠j):bn N i≠bn N j:=Wn h hl (by omega) (by omega) (by omega)
end
theorem Yz {P:Program} {T:World→World→Prop} {D:World→Prop} {cs:List Cd} {N:List Nat} {A:List arcP} {i:Int} {x:arcP} {v:Value} (t j:Nat) (hD:∀w',D w'→(Ad N A).holds w') (hl:N.length=A.length) (hx:Ak cs=true→getI A i=some x) (hj:Ak cs=true→(acs N x)[j]? = some v) (ht:Eh P t=true) :
  Ob.ok P T D (.run cs (Instr.loadAt t (.pointer (some ⟨bn N i,j,none⟩))) v):=fun hc w' hd=>Fj ht (Bd (hD w' hd) hl (hx hc) (hj hc))
theorem oLA {P:Program} {T:World→World→Prop} {D:World→Prop} {obs:List Ob} {N:List Nat} {A:List arcP} {i:Int} {x:arcP} {v:Value} (t j:Nat) (hD:∀w',D w'→(Ad N A).holds w') (hl:N.length=A.length) (hx:getI A i=some x) (hj:(acs N x)[j]? = some v) (l:Obs P T D obs) (ht:Eh P t=true:=by kernel_rfl) :
  Obs P T D (.run [] (Instr.loadAt t (.pointer (some ⟨bn N i,j,none⟩))) v::obs):=Gg (Yz t j hD hl (fun _=>hx) (fun _=>hj) ht) l
theorem U5 {w:World} {b:Nat} {t:TypeId} {cs:Array Value} (h:Blk w b t cs):Ev.RowAt w b t cs.size:=by
 unfold Blk at h;constructor
 ·simp [World.shape?,h]
 ·intro off;simp [World.frozen?,h]
theorem Ym {P:Program} {w:World} {tp:TypeId} {z:Nat} {b c:Nat} {r:Bool} (hu:P.underlying tp=some (.pointer 160)) (hz:Ev.szT P 160=some (z+1)) (h:(sameAddr ⟨b,0,none⟩ ⟨c,0,none⟩).run P w=.ok r w):(binOp .neq tp (pb b) (pb c)).run P w=.ok (.bool (!r)) w:=by
 have:=Ev.ptr_eq (tp:=tp) (e:=160) (a:=some ⟨b,0,none⟩) (b:=some ⟨c,0,none⟩) hu hz h;simp [binOp,this]
theorem Y4 {P:Program} {w:World} {b:Nat}:(sameAddr ⟨b,0,none⟩ ⟨b,0,none⟩).run P w=.ok true w:=by simp [sameAddr]
theorem A1q {P:Program} {T:World→World→Prop} {D:World→Prop} {cs:List Cd} {N:List Nat} {A:List arcP} {i j:Int} (tp:TypeId) (hD:∀w',D w'→(Ad N A).holds w') (hl:N.length=A.length) (h:Ak cs=true→(0≤i∧i<(A.length:Int))∧0≤j∧j<(A.length:Int)) (hu:P.underlying tp=some (.pointer 160)) (hz:Ev.szT P 160=some 3) :
  Ob.ok P T D (.run cs (binOp .neq tp (pb (bn N i)) (pb (bn N j))) (.bool (!decide (i=j)))):=fun hc w' hd=>by
 obtain ⟨h1,h2⟩:=h hc;refine Ym hu hz ?_
 by_cases e:i=j
 ·subst e;rw [decide_eq_true rfl];exact Y4
 ·rw [decide_eq_false e];have a1:=Kd (hD w' hd) hl (List.getElem?_eq_getElem (i:=i.toNat) (by omega));have a2:=Kd (hD w' hd) hl (List.getElem?_eq_getElem (i:=j.toNat) (by omega));exact Ev.same_other (Zx (hD w' hd) hl h1 h2 e) (U5 a1) (U5 a2)
theorem Yj {N M:List Nat} {x:Int} (h:x<(N.length:Int)) (h0:0≤x):bn (N++M) x=bn N x:=by
 unfold bn;rw [List.getD_eq_getElem?_getD,List.getD_eq_getElem?_getD,List.getElem?_append_left (by omega)]
theorem Pz {N M:List Nat} {x:Int} (h:x<(N.length:Int)):ap (N++M) x=ap N x:=by
 by_cases h0:x<0
 ·rw [Q0 h0,Q0 h0]
 ·rw [C1 (by omega),C1 (by omega),Yj h (by omega)]
theorem Zf {N M:List Nat} {b:Nat}:bn (N++b::M) (N.length:Int)=b:=by
 unfold bn;rw [List.getD_eq_getElem?_getD,Int.toNat_natCast,List.getElem?_append_right (Nat.le_refl _),Nat.sub_self];rfl
theorem Wq {N M:List Nat} {a b:Nat}:bn (N++a::b::M) ((N.length:Int)+1)=b:=by
 unfold bn;rw [List.getD_eq_getElem?_getD,show ((N.length:Int)+1).toNat=N.length+1 by omega,List.getElem?_append_right (by omega),Nat.add_sub_cancel_left];rfl
theorem Wl {N M:List Nat} {l:List Int} (h:∀x∈l,x<(N.length:Int)):l.flatMap (apF (N++M))=l.flatMap (apF N):=by
 induction l with
 | nil=>rfl
 | cons a l ih=>rw [List.flatMap_cons,List.flatMap_cons,ih fun x hx=>h x (List.mem_cons_of_mem _ hx)];unfold apF;rw [Pz (h a (List.mem_cons_self ..))]
theorem Eu {N M:List Nat} {e n cap:Nat} {ad:Option Addr} {l:List Int} (h:∀x∈l,x<(N.length:Int)):arr e 1 (apF N) ad n cap l=arr e 1 (apF (N++M)) ad n cap l:=by
 unfold arr;simp only [Wl h]
theorem Se {N M:List Nat} {e:Nat}:∀{hd:List Hd} {css:List (List Int)},(∀l∈css,∀x∈l,x<(N.length:Int))→rwL e 1 (apF N) hd css=rwL e 1 (apF (N++M)) hd css
 | [],_,_=>rfl
 | _::_,[],_=>rfl
 | q::hd,c::css,h=>by
  unfold rwL;rw [List.zipWith_cons_cons,List.zipWith_cons_cons,Eu (M:=M) (h c (List.mem_cons_self ..))];exact congrArg _ (Se fun l hl=>h l (List.mem_cons_of_mem _ hl))
theorem Vq {N M:List Nat} {eo e n cap:Nat} {ad:Option Addr} {hd:List Hd} {css:List (List Int)} (h:∀l∈css,∀x∈l,x<(N.length:Int)):Dl eo e 1 (apF N) ad n cap hd css=Dl eo e 1 (apF (N++M)) ad n cap hd css:=by
 unfold Dl;rw [Se (M:=M) h]
theorem Wh {N M:List Nat} {x:arcP} (h:x.twin<(N.length:Int)):acs (N++M) x=acs N x:=by unfold acs;rw [Pz h]
theorem Wm {N M L:List Nat}:∀{A:List arcP},(∀x∈A,x.twin<(N.length:Int))→arL N L A=arL (N++M) L A:=by
 intro A h;unfold arL
 induction L generalizing A with
 | nil=>rfl
 | cons b L ih =>
  cases A with
  | nil=>rfl
  | cons x A=>rw [List.zipWith_cons_cons,List.zipWith_cons_cons,ih fun y hy=>h y (List.mem_cons_of_mem _ hy),Wh (h x (List.mem_cons_self ..))]
theorem St.addA {w0 w:World} {H:List Res} {N:List Nat} {A:List arcP} {a b:Nat} {x y:arcP} (hl:N.length=A.length) (ht:∀x∈A,x.twin<(N.length:Int)) (hS:St w0 (blk a 160 (acs (N++[a,b]) x)::blk b 160 (acs (N++[a,b]) y)::Ad N A::H) w):St w0 (Ad (N++[a,b]) (A++[x,y])::H) w:=by
 apply St.closeG;have e:arL (N++[a,b]) (N++[a,b]) (A++[x,y])=arL N N A++[blk a 160 (acs (N++[a,b]) x),blk b 160 (acs (N++[a,b]) y)]:=by
  rw [Wm (M:=[a,b]) ht];unfold arL;rw [List.zipWith_append hl];rfl
 rw [e];have h1:St w0 (Ad N A::blk a 160 (acs (N++[a,b]) x)::blk b 160 (acs (N++[a,b]) y)::H) w:=hS.perm ((List.Perm.cons _ (List.Perm.swap _ _ _)).trans (List.Perm.swap _ _ _));have h2:=h1.openG;rw [List.append_assoc];exact h2
theorem L0 {P:Program} {r:Option Nat} {ops:Array Oper} {K:Act→World→Prop} {n k:Nat} {ds:List Deferred} {M:FM} {a:Act} {w0 w:World} {H:List Res} {N:List Nat} {A A2:List arcP} {j:Int} {u u2:arcP} (t i off:Nat) (v:Value) (hF:Fr n ds M a) (hS:St w0 H w) (hi:H[i]? = some (Ad N A)) (hl:N.length=A.length) (hu:getI A j=some u) (hA:Cb A j u2=some A2)
  (next:∀w' a',Fr n ds M a'→St w0 (H.set i (Ad N A2)) w'→N.length=A2.length→K a' w') (hcs:Nm (acs N u) off v.cells.toList=acs N u2) (hdst:Al ops n=true:=by kernel_rfl)
  (hs:StoreAt ops k M t (.pointer (some ⟨bn N j,off,none⟩)) v:=by exact ⟨by kernel_rfl⟩) (hsz:pureSem P (sizeOf t)=some v.cells.size:=by kernel_rfl) (hone:v.cells.toList.all Value.oneCell'=true:=by kernel_rfl) (hfit:Nat.ble (off+v.cells.size) 3=true:=by kernel_rfl)
  (hM:NextM ops k M undef M:=by exact ⟨by kernel_rfl⟩):SK P r ops k K a w:=by
 obtain ⟨h0,hlt,hx⟩:=C0 hu;have hiH:i<H.length:=Vo hi;have e2:A2=A.set j.toNat u2:=by
  unfold Cb at hA
  split at hA
  ·exact (Option.some.inj hA).symm
  ·cases hA
 have hl2:N.length=A2.length:=by rw [e2,List.length_set];exact hl
 have hS1:=hS.openAt hi;have hg:(arL N N A++H.eraseIdx i)[j.toNat]? = some (blk (bn N j) 160 (acs N u)):=by
  have hb:=Je (M:=N) hl hx;rw [List.getElem?_append_left (List.getElem?_eq_some_iff.1 hb).1];exact hb
 refine storeK M j.toNat off v (acs N u2) hF hS1 hg hdst hs hsz hone hfit hcs hM fun w' a' hF' hS'=>next w' a' hF' (St.closeAt hiH ?_) hl2
 have hb:=Je (M:=N) hl hx;rw [List.set_append_left _ _ (List.getElem?_eq_some_iff.1 hb).1] at hS';rw [e2,Yh N N A j.toNat u2 (by omega)];exact hS'
end Go.Proofs.Ytbhjgebjojdohaa
