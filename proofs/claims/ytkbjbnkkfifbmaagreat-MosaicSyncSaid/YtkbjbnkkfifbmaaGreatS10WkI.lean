import Derived.Test.YtkbjbnkkfifbmaaGreatS10WkH
set_option linter.unusedVariables false
set_option linter.unusedSimpArgs false
set_option linter.unusedSectionVars false
namespace Go.Proofs.YtkbjbnkkfifbmaaGreat
open Go Go.RowKit Go.Eng
set_option linter.unusedVariables false
set_option maxRecDepth 10000
set_option maxHeartbeats 4000000
theorem T0 (ad:Option Addr) (m sz:Nat):Cs ad m 0 sz=ad:=by
 unfold Cs
 split
 ·rfl
 ·cases ad with
  | none=>rfl
  | some a=>simp [Addr.add]
theorem Pv {α:Type} {l:List α} {i:Nat} (u:α) (h:i<l.length):(l.set i u).take (i+1)=l.take i++[u]:=by
 rw [List.take_add_one,List.getElem?_set_self h]
 congr 1
 apply List.ext_getElem?;intro q
 by_cases hq:q<i
 ·rw [List.getElem?_take_of_lt hq,List.getElem?_take_of_lt hq,List.getElem?_set_ne (by omega)]
 ·rw [List.getElem?_eq_none (by simp;omega),List.getElem?_eq_none (by simp;omega)]
theorem A45 (bx:Nat) (ad:Option Addr) (cap:Nat) (l:List mosaic_Key) (hl:l.length≤1000000) (U:List Res) (pred:mosaic_Key→Bool) (w0 w1:World) (hp:A3s 70 #[pb bx] w0 U pred) (hS:St w0 (arr 46 3 mosaic_Key.cells ad l.length cap l::U) w1) :
  Bd Tryz.prog 69 #[sv ad l cap,.func (.func 70) #[] #[pb bx]] w1 (fun v w=>v=sv ad (l.filter fun x=>!pred x) cap∧St w0 (arr 46 3 mosaic_Key.cells ad (l.filter fun x=>!pred x).length cap (l.filter fun x=>!pred x)::U) w):=by
 refine feW Tryz.func69 42 [(0,sv ad l cap),(1,.func (.func 70) #[] #[pb bx])] hS fun a w hF hS=>?_;refine qnB [] hF fun a hF=>?_;refine esr<|qn 2 2 [(8,sv ad l cap),(9,.func (.func 70) #[] #[pb bx])] hF fun a hF=>?_;refine SK.wi (qR (fun v=>[(10,v)]) hF (A0d bx ad cap l hl U pred w0 w hp hS) ?_);rintro v w a ⟨⟨j,rfl,hj⟩,hS⟩ hF;refine rn 1 4 [(0,sv ad l cap),(1,.func (.func 70) #[] #[pb bx]),(5,iv j)] hF fun a hF=>wfn rfl ?_;refine Ai<|qnB [(12,.bool (j == -1))] hF fun a hF=>?_;refine Gl hF rfl (fun hc=>?_) fun hc=>?_
 ·have hj1:j=-1:=by simpa using hc
  have hno:∀x∈l,pred x=false:=by
   rcases hj with ⟨_,h⟩|⟨i,u,h,_⟩
   ·exact h
   ·omega
  have hfl:(l.filter fun x=>!pred x)=l:=List.filter_eq_self.2 fun x hx=>by simp [hno x hx]
  refine esr<|rn 2 2 [(4,sv ad l cap)] hF fun a hF=>wfn rfl ?_;rw [hfl];exact wpIn_ret (A5<|A6 [.tmp 4] [_] hF rfl ⟨rfl,trivial⟩ ⟨_,rfl,rfl,hS⟩)
 refine wpIn_skip (A3 ?_);obtain ⟨i0,u0,rfl,hu0,hpu,hno⟩:∃(i:Nat) (u:mosaic_Key),j=i∧l[i]? = some u∧pred u=true∧∀x∈l.take i,pred x=false:=by
  rcases hj with ⟨h,_⟩|h
  ·subst h;simp at hc
  ·exact h
 have hi0:i0<l.length:=(List.getElem?_eq_some_iff.1 hu0).1;refine Ai<|roB [(0,sv ad l cap),(1,.func (.func 70) #[] #[pb bx]),(5,iv i0),(6,iv ((i0+1:Nat):Int))] hF (oA 3 (ckN i0 (by omega))<|A4) fun a hF=>?_;refine wpIn_block<|Co (fun n_ a w=>∃(l':List mosaic_Key) (i j:Nat),n_=l.length-j∧l'.length=l.length∧i<j∧j≤l.length∧l'.take i=(l.take j).filter (fun x=>!pred x)∧(∀q,j≤q→l'[q]? = l[q]?)∧Fr 42 [] [(0,sv ad l' cap),(1,.func (.func 70) #[] #[pb bx]),(5,iv i),(6,iv j)] a∧St w0 (arr 46 3 mosaic_Key.cells ad l'.length cap l'::U) w) (l.length-(i0+1)) ⟨l,i0,i0+1,rfl,rfl,by omega,by omega,?_,fun _ _=>rfl,hF,hS⟩ ?_
 ·rw [List.take_add_one,hu0,List.filter_append,List.filter_eq_self.2 fun x hx=>by simp [hno x hx]];simp [hpu]
 clear hno hpu hu0 hi0 hF hS
 rintro n_ a w ⟨l',i,j,rfl,hll,hij,hjl,hA,hB,hF,hS⟩;refine Ai<|qnB [(19,.bool (decide ((j:Int)<(ln l'))))] hF fun a hF=>?_;refine Gl hF rfl (fun hc=>?_) fun hc=>?_
 ·have hlt:j<l'.length:=by
   have:=of_decide_eq_true hc;simp only [ln] at this;omega
  obtain ⟨u,hu⟩:∃u,l'[j]? = some u:=⟨l'[j],List.getElem?_eq_getElem hlt⟩;obtain ⟨u2,hu2⟩:∃u,l'[i]? = some u:=⟨l'[i]'(by omega),List.getElem?_eq_getElem _⟩;have hg:Bo l' (j:Int)=some u:=by unfold Bo;rw [if_pos (by omega)];simpa using hu
  have hg2:Bo l' (i:Int)=some u2:=by unfold Bo;rw [if_pos (by omega)];simpa using hu2
  have hlu:l[j]? = some u:=by rw [←hB j (Nat.le_refl _)];exact hu
  have htk:l.take (j+1)=l.take j++[u]:=by rw [List.take_add_one,hlu];rfl
  refine wK<|Di (fun a w=>∃(l':List mosaic_Key) (i:Nat),l'.length=l.length∧i<j+1∧l'.take i=(l.take (j+1)).filter (fun x=>!pred x)∧(∀q,j+1≤q→l'[q]? = l[q]?)∧Fr 42 [] [(0,sv ad l' cap),(1,.func (.func 70) #[] #[pb bx]),(5,iv i),(6,iv j)] a∧St w0 (arr 46 3 mosaic_Key.cells ad l'.length cap l'::U) w) ?_ ?_
  ·refine wpIn_block<|esr<|qo 4 4 [(25,.agg (mosaic_Key.cells u).toArray)] hF (oI 60 (hS.arr (i:=0) rfl) hg<|oG 46 0 3 mosaic_Key.cells_len (fun w' hd=>(hS.at_ hd).arr (i:=0) rfl) hg<|A4) fun a hF=>?_;refine SK.wi (qA 46 #[.string ⟨#[]⟩,iv 0,iv 0] (fun b=>[(7,pb b)]) hF hS fun b7 w a hF hS=>?_);refine SK.wi (qw 46 0 (mosaic_Key.cells u).toArray hF hS rfl fun w a hF hS=>wfn rfl ?_);refine esr<|qo 2 2 [(26,.func (.func 70) #[] #[pb bx]),(27,.agg (mosaic_Key.cells u).toArray)] hF (oN 46 0 0 3 hS.i rfl<|A4) fun a hF=>?_;refine SK.wi (qR (fun v=>[(28,v)]) hF (hp u [blk b7 46 (mosaic_Key.cells u).toArray,arr 46 3 mosaic_Key.cells ad l'.length cap l'] w hS) ?_);rintro v w a ⟨rfl,hS⟩ hF;refine rn 1 4 [(0,sv ad l' cap),(1,.func (.func 70) #[] #[pb bx]),(5,iv i),(6,iv j),(7,pb b7),(29,.bool (!pred u))] hF fun a hF=>wfn rfl ?_;refine Gl hF rfl (fun hc=>?_) fun hc=>?_
   ·refine esr<|qo 4 4 [(32,.agg (mosaic_Key.cells u).toArray),(33,.pointer (some (At ad i 3)))] hF (oN 46 0 0 3 hS.i rfl<|oI 60 (hS.arr (i:=1) rfl) hg2<|A4) fun a hF=>?_;have hset:Sz l' (i:Int) u=some (l'.set i u):=by unfold Sz;rw [if_pos (by omega)];simp
    refine SK.wi (A6g (j:=(i:Int)) (t:=46) [(0,sv ad l' cap),(1,.func (.func 70) #[] #[pb bx]),(5,iv i),(6,iv j)] 1 0 u2 u (.agg (mosaic_Key.cells u).toArray) hF hS rfl (by kernel_rfl) ⟨by kernel_rfl⟩ mosaic_Key.cells_len hg2 rfl (by kernel_rfl) (by kernel_rfl) (by kernel_rfl) hset ⟨by kernel_rfl⟩ fun w a hF hl3 hS=>?_);refine wfn rfl ?_;refine WI.region<|ro 3 3 [(0,sv ad l' cap),(1,.func (.func 70) #[] #[pb bx]),(5,iv ((i+1:Nat):Int)),(6,iv j)] hF (oA 3 (ckN i (by omega))<|A4) fun a hF=>WI.fin rfl (Ac<|A3 ?_);refine ⟨l'.set i u,i+1,by rw [←hl3,hll],by omega,?_,?_,?_,?_⟩
    ·rw [Pv u (by omega),hA,htk,List.filter_append];simp [hc]
    ·intro q hq;rw [List.getElem?_set_ne (by omega)];exact hB q (by omega)
    ·simp only [sv,hl3] at hF ⊢;exact hF
    ·rw [←hl3];exact St.pickT (A:=[blk b7 46 (mosaic_Key.cells u).toArray]) [] (by decide) hS
   ·refine wpIn_skip (Ac<|A3 ?_);refine ⟨l',i,hll,by omega,?_,fun q hq=>hB q (by omega),hF.sub (by kernel_rfl),St.pickT (A:=[blk b7 46 (mosaic_Key.cells u).toArray]) [] (by decide) hS⟩;rw [hA,htk,List.filter_append];simp [hc]
  ·clear hA hB hF hS hu hu2 hg hg2 hij hc hlt
   rintro a w ⟨l2,i2,hll2,hij,hA,hB,hF,hS⟩;have hj1:j+1≤l.length:=by have:=(List.getElem?_eq_some_iff.1 hlu).1;omega
   refine WI.region<|ro 3 3 [(0,sv ad l2 cap),(1,.func (.func 70) #[] #[pb bx]),(5,iv i2),(6,iv ((j+1:Nat):Int))] hF (oA 3 (ckN j (by omega))<|A4) fun a hF=>wfn rfl ?_;exact ⟨l.length-(j+1),by omega,l2,i2,j+1,rfl,hll2,hij,hj1,hA,hB,hF,hS⟩
 ·have hjl2:j=l.length:=by
   have:=of_decide_eq_false hc;simp only [ln] at this;omega
  subst hjl2;rw [List.take_length] at hA;have hil:i≤l'.length:=by omega
  have hlen:(l.filter fun x=>!pred x).length=i:=by rw [←hA,List.length_take];omega
  refine wpIn_exit (A7<|A7<|Ap<|A3 ?_);refine esr<|qo 3 3 [(38,.slice (Cs ad cap i 3) (l'.length-i) (cap-i))] hF (oX (.run [] (Instr.sliceAt 60 (.slice ad l'.length cap) (some (iv i)) none none) (.slice (Cs ad cap i 3) (l'.length-i) (cap-i))) (P2 (sz:=3) (by kernel_rfl) (fun _=>hil)) A4) fun a hF=>?_;refine SK.wi (Zw [(0,sv ad l' cap),(5,iv i)] 0 (t:=60) (ty:=0) (k0:=i) (⟨⟨#[]⟩,0,0⟩:mosaic_Key) hil mosaic_Key.cells_len (by decide) hF hS rfl (by kernel_rfl) ⟨by kernel_rfl⟩ (by kernel_rfl) (zv:=.agg #[.string ⟨#[]⟩,iv 0,iv 0]) (by kernel_rfl) rfl (by kernel_rfl) ⟨by kernel_rfl⟩ fun w a hF hS=>wfn rfl ?_);have hcap:i≤cap:=Nat.le_trans hil (hS.arr (i:=0) rfl).le.1;have hob:Ob.ok Tryz.prog (fun a b=>b=a) (fun x=>x=w) (.run [] (Instr.sliceAt 60 (.slice ad l'.length cap) none (some (iv i)) none) (.slice ad i cap)):=by
   have h:Ob.ok Tryz.prog (fun a b=>b=a) (fun x=>x=w) (.run [] (Instr.sliceAt 60 (.slice ad l'.length cap) none (some (iv i)) none) (.slice (Cs ad cap 0 3) i cap)):=Qu (by kernel_rfl) (fun _=>hcap)
   rwa [T0] at h
  refine roB [(4,.slice ad i cap)] hF (oX (.run [] (Instr.sliceAt 60 (.slice ad l'.length cap) none (some (iv i)) none) (.slice ad i cap)) hob A4) fun a hF=>?_;have hS2:=hS.arrTake (i:=0) (k:=i) rfl mosaic_Key.cells_len (by simp;omega);have htl:(l'.take i++List.replicate (l'.length-i) (⟨⟨#[]⟩,0,0⟩:mosaic_Key)).take i=l.filter fun x=>!pred x:=by
   rw [List.take_append_of_le_length (by rw [List.length_take];omega),List.take_take,Nat.min_self,hA]
  rw [htl] at hS2;refine wpIn_ret (A6 [.tmp 4] [_] hF rfl ⟨rfl,trivial⟩ ⟨_,rfl,?_,?_⟩)
  ·unfold sv;rw [hlen]
  ·rw [hlen];exact hS2
end Go.Proofs.YtkbjbnkkfifbmaaGreat
