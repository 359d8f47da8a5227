import Derived.Test.YtkbjbnkkfifbmaaGreatS10WnK
import Derived.Test.YtkbjbnkkfifbmaaGreatS10XK
set_option linter.unusedVariables false
set_option linter.unusedSimpArgs false
set_option linter.unusedSectionVars false
namespace Go.Eng
open Go Go.RowKit
theorem St.arrTake {w w0:World} {H:List Res} {α:Type} {e sz n cap:Nat} {f:α→List Value} {ad:Option Addr} {l:List α} {i k:Nat} (hS:St w0 H w) (hi:H[i]? = some (Go.Eng.arr e sz f ad n cap l)) (hf:∀x,(f x).length=sz) (hk:k≤l.length):St w0 (H.set i (Go.Eng.arr e sz f ad k cap (l.take k))) w:=by
 have hold:=hS.holds _ (List.mem_of_getElem? hi);have hl:l.length=n:=hold.1;have htl:(l.take k).length=k:=by rw [List.length_take];omega
 have hfl:(l.take k).flatMap f=(l.flatMap f).take (k*sz):=by
  have e2:l.flatMap f=(l.take k).flatMap f++(l.drop k).flatMap f:=by rw [←List.flatMap_append,List.take_append_drop]
  have e3:((l.take k).flatMap f).length=k*sz:=by rw [D3 hf,htl]
  rw [e2,←e3,List.take_left]
 refine hS.upd hi rfl rfl rfl (Nat.le_refl _) (fun _ _ _=>rfl) ⟨htl,by rw [D3 hf,htl],?_⟩ (fun q hq=>.inl (by cases ad<;>exact hq))
 rcases hold.2.2 with ⟨h',hz⟩|⟨g,cap',cur,h',hbase,hg,hnc,hcm,hcs,htake⟩
 ·cases h'
  exact .inl ⟨by rw [show k=0 by omega],by omega⟩
 ·cases h'
  refine .inr ⟨g,cap,cur,rfl,hbase,hg,by omega,hcm,hcs,?_⟩;rw [hfl,←htake,List.take_take,Nat.min_eq_left (Nat.mul_le_mul_right sz (by omega))]
end Go.Eng
namespace Go.Proofs.YtkbjbnkkfifbmaaGreat
open Go Go.RowKit Go.Eng
set_option linter.unusedVariables false
set_option maxRecDepth 10000
set_option maxHeartbeats 4000000
def A3s (fc:FuncId) (cap:Array Value) (w0:World) (U:List Res) (pred:mosaic_Key→Bool):Prop :=
 ∀(k:mosaic_Key) (X:List Res) (w:World),St w0 (X++U) w→Bd Tryz.prog fc (#[.agg (mosaic_Key.cells k).toArray]++cap) w (fun v w'=>v=.bool (pred k)∧St w0 (X++U) w')
theorem A0d (bx:Nat) (ad:Option Addr) (cap:Nat) (l:List mosaic_Key) (hl:l.length≤1000000) (U:List Res) (pred:mosaic_Key→Bool) (w0 w1:World) (hp:A3s 70 #[pb bx] w0 U pred) (hS:St w0 (arr 46 3 mosaic_Key.cells ad l.length cap l::U) w1) :
  Bd Tryz.prog 120 #[sv ad l cap,.func (.func 70) #[] #[pb bx]] w1 (fun v w=>(∃j:Int,v=iv j∧((j=-1∧∀x∈l,pred x=false)∨∃(i:Nat) (u:mosaic_Key),j=i∧l[i]? = some u∧pred u=true∧∀x∈l.take i,pred x=false))∧St w0 (arr 46 3 mosaic_Key.cells ad l.length cap l::U) w):=by
 refine feW Tryz.func120 19 [(0,sv ad l cap),(1,.func (.func 70) #[] #[pb bx])] hS fun a w hF hS=>?_;refine qnB [] hF fun a hF=>?_;refine Ai<|qnB [(7,iv (ln l)),(8,iv 0)] hF fun a hF=>?_;refine wpIn_block<|Co (fun n_ a w=>∃i:Nat,n_=l.length-i∧i≤l.length∧(∀x∈l.take i,pred x=false)∧Fr 19 [] [(0,sv ad l cap),(1,.func (.func 70) #[] #[pb bx]),(7,iv (ln l)),(8,iv i)] a∧St w0 (arr 46 3 mosaic_Key.cells ad l.length cap l::U) w) l.length ⟨0,rfl,Nat.zero_le _,by simp,hF.sub (by kernel_rfl),hS⟩ ?_;rintro n_ a w ⟨i,rfl,hi,hno,hF,hS⟩;refine qnB [(9,.bool (decide ((i:Int)<(ln l))))] hF fun a hF=>?_;refine Ai<|Gl hF rfl (fun hc=>?_) fun hc=>?_
 ·have hlt:i<l.length:=by
   have:=of_decide_eq_true hc;simp only [ln] at this;omega
  obtain ⟨u,hu⟩:∃u,l[i]? = some u:=⟨l[i],List.getElem?_eq_getElem hlt⟩;have hg:Bo l (i:Int)=some u:=by unfold Bo;rw [if_pos (by omega)];simpa using hu
  refine wK<|Ai<|wpIn_block<|qnB [(5,iv i)] hF fun a hF=>?_;refine esr<|qo 5 5 [(11,.func (.func 70) #[] #[pb bx]),(15,.agg (mosaic_Key.cells u).toArray)] hF (oI 60 (hS.arr (i:=0) rfl) hg<|oG 46 0 3 mosaic_Key.cells_len (fun w' hd=>(hS.at_ hd).arr (i:=0) rfl) hg<|A4) fun a hF=>?_;refine SK.wi (qR (fun v=>[(16,v)]) hF (hp u [arr 46 3 mosaic_Key.cells ad l.length cap l] w hS) ?_);rintro v w a ⟨rfl,hS⟩ hF;refine WI.fin rfl<|A3 ?_;refine Gl hF rfl (fun hc=>?_) fun hc=>?_
  ·refine esr<|rn 2 2 [(4,iv i)] hF fun a hF=>wfn rfl ?_;exact wpIn_ret (Aj<|A5<|A5<|Aj<|A5<|A6 [.tmp 4] [_] hF rfl ⟨rfl,trivial⟩ ⟨_,rfl,⟨_,rfl,.inr ⟨i,u,rfl,hu,hc,hno⟩⟩,hS⟩)
  ·refine wpIn_skip (Ac<|A3 ?_);obtain ⟨j,hj,hck⟩:∃j:Int,j=((i+1:Nat):Int)∧ck ((i:Int)+1)=some j:=⟨_,rfl,ckN i (by omega)⟩;refine WI.region<|ro 2 2 [(0,sv ad l cap),(1,.func (.func 70) #[] #[pb bx]),(7,iv (ln l)),(8,iv j)] hF (oA 3 hck<|A4) fun a hF=>wfn rfl ?_;rw [hj] at hF;refine ⟨l.length-(i+1),by omega,i+1,rfl,by omega,?_,hF,hS⟩;intro x hx;rw [List.take_add_one,hu] at hx;rcases List.mem_append.1 hx with hx|hx
   ·exact hno x hx
   ·simp at hx;rw [hx];exact hc
 ·have:i=l.length:=by
   have:=of_decide_eq_false hc;simp only [ln] at this;omega
  subst this;refine wpIn_exit (A7<|A7<|Ap<|A3 ?_);refine qnB [(4,iv (-1))] hF fun a hF=>?_;rw [List.take_length] at hno;exact wpIn_ret (A6 [.tmp 4] [_] hF rfl ⟨rfl,trivial⟩ ⟨_,rfl,⟨_,rfl,.inl ⟨rfl,hno⟩⟩,hS⟩)
end Go.Proofs.YtkbjbnkkfifbmaaGreat
