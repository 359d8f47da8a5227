import Derived.Test.YtkbjbnkkfifbmaaGreatS10WkI
set_option linter.unusedVariables false
set_option linter.unusedSimpArgs false
set_option linter.unusedSectionVars false
namespace Go.Proofs.YtkbjbnkkfifbmaaGreat
open Go Go.RowKit Go.Eng
set_option linter.unusedVariables false
set_option maxRecDepth 10000
set_option maxHeartbeats 4000000
abbrev MsgC:=mosaic_Key×Option Addr×Nat×Nat
def MsgC.cells (x:MsgC):List Value:=[.string x.1.Name,.int .i64 x.1.Tilt,.int .i64 x.1.Time,.slice x.2.1 x.2.2.1 x.2.2.2]
theorem MsgC.cells_len (x:MsgC):(MsgC.cells x).length=4:=rfl
def A3r (fc:FuncId) (cap:Array Value) (w0:World) (U:List Res) (pred:MsgC→Bool):Prop :=
 ∀(k:MsgC) (X:List Res) (w:World),St w0 (X++U) w→Bd Tryz.prog fc (#[.agg (MsgC.cells k).toArray]++cap) w (fun v w'=>v=.bool (pred k)∧St w0 (X++U) w')
theorem Yx (bg bx:Nat) (ad:Option Addr) (cap:Nat) (l:List MsgC) (hl:l.length≤1000000) (U:List Res) (pred:MsgC→Bool) (w0 w1:World) (hp:A3r 62 #[pb bg,pb bx] w0 U pred) (hS:St w0 (arr 49 4 MsgC.cells ad l.length cap l::U) w1) :
  Bd Tryz.prog 116 #[sv ad l cap,.func (.func 62) #[] #[pb bg,pb bx]] w1 (fun v w=>(∃j:Int,v=iv j∧((j=-1∧∀x∈l,pred x=false)∨∃(i:Nat) (u:MsgC),j=i∧l[i]? = some u∧pred u=true∧∀x∈l.take i,pred x=false))∧St w0 (arr 49 4 MsgC.cells ad l.length cap l::U) w):=by
 refine feW Tryz.func116 19 [(0,sv ad l cap),(1,.func (.func 62) #[] #[pb bg,pb bx])] hS fun a w hF hS=>?_;refine qnB [] hF fun a hF=>?_;refine Ai<|qnB [(7,iv (ln l)),(8,iv 0)] hF fun a hF=>?_;refine wpIn_block<|Co (fun n_ a w=>∃i:Nat,n_=l.length-i∧i≤l.length∧(∀x∈l.take i,pred x=false)∧Fr 19 [] [(0,sv ad l cap),(1,.func (.func 62) #[] #[pb bg,pb bx]),(7,iv (ln l)),(8,iv i)] a∧St w0 (arr 49 4 MsgC.cells ad l.length cap l::U) w) l.length ⟨0,rfl,Nat.zero_le _,by simp,hF.sub (by kernel_rfl),hS⟩ ?_;rintro n_ a w ⟨i,rfl,hi,hno,hF,hS⟩;refine qnB [(9,.bool (decide ((i:Int)<(ln l))))] hF fun a hF=>?_;refine Ai<|Gl hF rfl (fun hc=>?_) fun hc=>?_
 ·have hlt:i<l.length:=by
   have:=of_decide_eq_true hc;simp only [ln] at this;omega
  obtain ⟨u,hu⟩:∃u,l[i]? = some u:=⟨l[i],List.getElem?_eq_getElem hlt⟩;have hg:Bo l (i:Int)=some u:=by unfold Bo;rw [if_pos (by omega)];simpa using hu
  refine wK<|Ai<|wpIn_block<|qnB [(5,iv i)] hF fun a hF=>?_;refine esr<|qo 5 5 [(11,.func (.func 62) #[] #[pb bg,pb bx]),(15,.agg (MsgC.cells u).toArray)] hF (oI 54 (hS.arr (i:=0) rfl) hg<|oG 49 0 4 MsgC.cells_len (fun w' hd=>(hS.at_ hd).arr (i:=0) rfl) hg<|A4) fun a hF=>?_;refine SK.wi (qR (fun v=>[(16,v)]) hF (hp u [arr 49 4 MsgC.cells ad l.length cap l] w hS) ?_);rintro v w a ⟨rfl,hS⟩ hF;refine WI.fin rfl<|A3 ?_;refine Gl hF rfl (fun hc=>?_) fun hc=>?_
  ·refine esr<|rn 2 2 [(4,iv i)] hF fun a hF=>wfn rfl ?_;exact wpIn_ret (Aj<|A5<|A5<|Aj<|A5<|A6 [.tmp 4] [_] hF rfl ⟨rfl,trivial⟩ ⟨_,rfl,⟨_,rfl,.inr ⟨i,u,rfl,hu,hc,hno⟩⟩,hS⟩)
  ·refine wpIn_skip (Ac<|A3 ?_);obtain ⟨j,hj,hck⟩:∃j:Int,j=((i+1:Nat):Int)∧ck ((i:Int)+1)=some j:=⟨_,rfl,ckN i (by omega)⟩;refine WI.region<|ro 2 2 [(0,sv ad l cap),(1,.func (.func 62) #[] #[pb bg,pb bx]),(7,iv (ln l)),(8,iv j)] hF (oA 3 hck<|A4) fun a hF=>wfn rfl ?_;rw [hj] at hF;refine ⟨l.length-(i+1),by omega,i+1,rfl,by omega,?_,hF,hS⟩;intro x hx;rw [List.take_add_one,hu] at hx;rcases List.mem_append.1 hx with hx|hx
   ·exact hno x hx
   ·simp at hx;rw [hx];exact hc
 ·have:i=l.length:=by
   have:=of_decide_eq_false hc;simp only [ln] at this;omega
  subst this;refine wpIn_exit (A7<|A7<|Ap<|A3 ?_);refine qnB [(4,iv (-1))] hF fun a hF=>?_;rw [List.take_length] at hno;exact wpIn_ret (A6 [.tmp 4] [_] hF rfl ⟨rfl,trivial⟩ ⟨_,rfl,⟨_,rfl,.inl ⟨rfl,hno⟩⟩,hS⟩)
theorem A23 (bg bx:Nat) (ad:Option Addr) (cap:Nat) (l:List MsgC) (hl:l.length≤1000000) (U:List Res) (pred:MsgC→Bool) (w0 w1:World) (hp:A3r 62 #[pb bg,pb bx] w0 U pred) (hS:St w0 (arr 49 4 MsgC.cells ad l.length cap l::U) w1) :
  Bd Tryz.prog 60 #[sv ad l cap,.func (.func 62) #[] #[pb bg,pb bx]] w1 (fun v w=>v=sv ad (l.filter fun x=>!pred x) cap∧St w0 (arr 49 4 MsgC.cells ad (l.filter fun x=>!pred x).length cap (l.filter fun x=>!pred x)::U) w):=by
 refine feW Tryz.func60 42 [(0,sv ad l cap),(1,.func (.func 62) #[] #[pb bg,pb bx])] hS fun a w hF hS=>?_;refine qnB [] hF fun a hF=>?_;refine esr<|qn 2 2 [(8,sv ad l cap),(9,.func (.func 62) #[] #[pb bg,pb bx])] hF fun a hF=>?_;refine SK.wi (qR (fun v=>[(10,v)]) hF (Yx bg bx ad cap l hl U pred w0 w hp hS) ?_);rintro v w a ⟨⟨j,rfl,hj⟩,hS⟩ hF;refine rn 1 4 [(0,sv ad l cap),(1,.func (.func 62) #[] #[pb bg,pb bx]),(5,iv j)] hF fun a hF=>wfn rfl ?_;refine Ai<|qnB [(12,.bool (j == -1))] hF fun a hF=>?_;refine Gl hF rfl (fun hc=>?_) fun hc=>?_
 ·have hj1:j=-1:=by simpa using hc
  have hno:∀x∈l,pred x=false:=by
   rcases hj with ⟨_,h⟩|⟨i,u,h,_⟩
   ·exact h
   ·omega
  have hfl:(l.filter fun x=>!pred x)=l:=List.filter_eq_self.2 fun x hx=>by simp [hno x hx]
  refine esr<|rn 2 2 [(4,sv ad l cap)] hF fun a hF=>wfn rfl ?_;rw [hfl];exact wpIn_ret (A5<|A6 [.tmp 4] [_] hF rfl ⟨rfl,trivial⟩ ⟨_,rfl,rfl,hS⟩)
 refine wpIn_skip (A3 ?_);obtain ⟨i0,u0,rfl,hu0,hpu,hno⟩:∃(i:Nat) (u:MsgC),j=i∧l[i]? = some u∧pred u=true∧∀x∈l.take i,pred x=false:=by
  rcases hj with ⟨h,_⟩|h
  ·subst h;simp at hc
  ·exact h
 have hi0:i0<l.length:=(List.getElem?_eq_some_iff.1 hu0).1;refine Ai<|roB [(0,sv ad l cap),(1,.func (.func 62) #[] #[pb bg,pb bx]),(5,iv i0),(6,iv ((i0+1:Nat):Int))] hF (oA 3 (ckN i0 (by omega))<|A4) fun a hF=>?_;refine wpIn_block<|Co (fun n_ a w=>∃(l':List MsgC) (i j:Nat),n_=l.length-j∧l'.length=l.length∧i<j∧j≤l.length∧l'.take i=(l.take j).filter (fun x=>!pred x)∧(∀q,j≤q→l'[q]? = l[q]?)∧Fr 42 [] [(0,sv ad l' cap),(1,.func (.func 62) #[] #[pb bg,pb bx]),(5,iv i),(6,iv j)] a∧St w0 (arr 49 4 MsgC.cells ad l'.length cap l'::U) w) (l.length-(i0+1)) ⟨l,i0,i0+1,rfl,rfl,by omega,by omega,?_,fun _ _=>rfl,hF,hS⟩ ?_
 ·rw [List.take_add_one,hu0,List.filter_append,List.filter_eq_self.2 fun x hx=>by simp [hno x hx]];simp [hpu]
 clear hno hpu hu0 hi0 hF hS
 rintro n_ a w ⟨l',i,j,rfl,hll,hij,hjl,hA,hB,hF,hS⟩;refine Ai<|qnB [(19,.bool (decide ((j:Int)<(ln l'))))] hF fun a hF=>?_;refine Gl hF rfl (fun hc=>?_) fun hc=>?_
 ·have hlt:j<l'.length:=by
   have:=of_decide_eq_true hc;simp only [ln] at this;omega
  obtain ⟨u,hu⟩:∃u,l'[j]? = some u:=⟨l'[j],List.getElem?_eq_getElem hlt⟩;obtain ⟨u2,hu2⟩:∃u,l'[i]? = some u:=⟨l'[i]'(by omega),List.getElem?_eq_getElem _⟩;have hg:Bo l' (j:Int)=some u:=by unfold Bo;rw [if_pos (by omega)];simpa using hu
  have hg2:Bo l' (i:Int)=some u2:=by unfold Bo;rw [if_pos (by omega)];simpa using hu2
  have hlu:l[j]? = some u:=by rw [←hB j (Nat.le_refl _)];exact hu
  have htk:l.take (j+1)=l.take j++[u]:=by rw [List.take_add_one,hlu];rfl
  refine wK<|Di (fun a w=>∃(l':List MsgC) (i:Nat),l'.length=l.length∧i<j+1∧l'.take i=(l.take (j+1)).filter (fun x=>!pred x)∧(∀q,j+1≤q→l'[q]? = l[q]?)∧Fr 42 [] [(0,sv ad l' cap),(1,.func (.func 62) #[] #[pb bg,pb bx]),(5,iv i),(6,iv j)] a∧St w0 (arr 49 4 MsgC.cells ad l'.length cap l'::U) w) ?_ ?_
  ·refine wpIn_block<|esr<|qo 4 4 [(25,.agg (MsgC.cells u).toArray)] hF (oI 54 (hS.arr (i:=0) rfl) hg<|oG 49 0 4 MsgC.cells_len (fun w' hd=>(hS.at_ hd).arr (i:=0) rfl) hg<|A4) fun a hF=>?_;refine SK.wi (qA 49 #[.string ⟨#[]⟩,iv 0,iv 0,.slice none 0 0] (fun b=>[(7,pb b)]) hF hS fun b7 w a hF hS=>?_);refine SK.wi (qw 49 0 (MsgC.cells u).toArray hF hS rfl fun w a hF hS=>wfn rfl ?_);refine esr<|qo 2 2 [(26,.func (.func 62) #[] #[pb bg,pb bx]),(27,.agg (MsgC.cells u).toArray)] hF (oN 49 0 0 4 hS.i rfl<|A4) fun a hF=>?_;refine SK.wi (qR (fun v=>[(28,v)]) hF (hp u [blk b7 49 (MsgC.cells u).toArray,arr 49 4 MsgC.cells ad l'.length cap l'] w hS) ?_);rintro v w a ⟨rfl,hS⟩ hF;refine rn 1 4 [(0,sv ad l' cap),(1,.func (.func 62) #[] #[pb bg,pb bx]),(5,iv i),(6,iv j),(7,pb b7),(29,.bool (!pred u))] hF fun a hF=>wfn rfl ?_;refine Gl hF rfl (fun hc=>?_) fun hc=>?_
   ·refine esr<|qo 4 4 [(32,.agg (MsgC.cells u).toArray),(33,.pointer (some (At ad i 4)))] hF (oN 49 0 0 4 hS.i rfl<|oI 54 (hS.arr (i:=1) rfl) hg2<|A4) fun a hF=>?_;have hset:Sz l' (i:Int) u=some (l'.set i u):=by unfold Sz;rw [if_pos (by omega)];simp
    refine SK.wi (A6g (j:=(i:Int)) (t:=49) [(0,sv ad l' cap),(1,.func (.func 62) #[] #[pb bg,pb bx]),(5,iv i),(6,iv j)] 1 0 u2 u (.agg (MsgC.cells u).toArray) hF hS rfl (by kernel_rfl) ⟨by kernel_rfl⟩ MsgC.cells_len hg2 rfl (by kernel_rfl) (by kernel_rfl) (by kernel_rfl) hset ⟨by kernel_rfl⟩ fun w a hF hl3 hS=>?_);refine wfn rfl ?_;refine WI.region<|ro 3 3 [(0,sv ad l' cap),(1,.func (.func 62) #[] #[pb bg,pb bx]),(5,iv ((i+1:Nat):Int)),(6,iv j)] hF (oA 3 (ckN i (by omega))<|A4) fun a hF=>WI.fin rfl (Ac<|A3 ?_);refine ⟨l'.set i u,i+1,by rw [←hl3,hll],by omega,?_,?_,?_,?_⟩
    ·rw [Pv u (by omega),hA,htk,List.filter_append];simp [hc]
    ·intro q hq;rw [List.getElem?_set_ne (by omega)];exact hB q (by omega)
    ·simp only [sv,hl3] at hF ⊢;exact hF
    ·rw [←hl3];exact St.pickT (A:=[blk b7 49 (MsgC.cells u).toArray]) [] (by decide) hS
   ·refine wpIn_skip (Ac<|A3 ?_);refine ⟨l',i,hll,by omega,?_,fun q hq=>hB q (by omega),hF.sub (by kernel_rfl),St.pickT (A:=[blk b7 49 (MsgC.cells u).toArray]) [] (by decide) hS⟩;rw [hA,htk,List.filter_append];simp [hc]
  ·clear hA hB hF hS hu hu2 hg hg2 hij hc hlt
   rintro a w ⟨l2,i2,hll2,hij,hA,hB,hF,hS⟩;have hj1:j+1≤l.length:=by have:=(List.getElem?_eq_some_iff.1 hlu).1;omega
   refine WI.region<|ro 3 3 [(0,sv ad l2 cap),(1,.func (.func 62) #[] #[pb bg,pb bx]),(5,iv i2),(6,iv ((j+1:Nat):Int))] hF (oA 3 (ckN j (by omega))<|A4) fun a hF=>wfn rfl ?_;exact ⟨l.length-(j+1),by omega,l2,i2,j+1,rfl,hll2,hij,hj1,hA,hB,hF,hS⟩
 ·have hjl2:j=l.length:=by
   have:=of_decide_eq_false hc;simp only [ln] at this;omega
  subst hjl2;rw [List.take_length] at hA;have hil:i≤l'.length:=by omega
  have hlen:(l.filter fun x=>!pred x).length=i:=by rw [←hA,List.length_take];omega
  refine wpIn_exit (A7<|A7<|Ap<|A3 ?_);refine esr<|qo 3 3 [(38,.slice (Cs ad cap i 4) (l'.length-i) (cap-i))] hF (oX (.run [] (Instr.sliceAt 54 (.slice ad l'.length cap) (some (iv i)) none none) (.slice (Cs ad cap i 4) (l'.length-i) (cap-i))) (P2 (sz:=4) (by kernel_rfl) (fun _=>hil)) A4) fun a hF=>?_;refine SK.wi (Zw [(0,sv ad l' cap),(5,iv i)] 0 (t:=54) (ty:=0) (k0:=i) (⟨⟨⟨#[]⟩,0,0⟩,none,0,0⟩:MsgC) hil MsgC.cells_len (by decide) hF hS rfl (by kernel_rfl) ⟨by kernel_rfl⟩ (by kernel_rfl) (zv:=.agg #[.string ⟨#[]⟩,iv 0,iv 0,.slice none 0 0]) (by kernel_rfl) rfl (by kernel_rfl) ⟨by kernel_rfl⟩ fun w a hF hS=>wfn rfl ?_);have hcap:i≤cap:=Nat.le_trans hil (hS.arr (i:=0) rfl).le.1;have hob:Ob.ok Tryz.prog (fun a b=>b=a) (fun x=>x=w) (.run [] (Instr.sliceAt 54 (.slice ad l'.length cap) none (some (iv i)) none) (.slice ad i cap)):=by
   have h:Ob.ok Tryz.prog (fun a b=>b=a) (fun x=>x=w) (.run [] (Instr.sliceAt 54 (.slice ad l'.length cap) none (some (iv i)) none) (.slice (Cs ad cap 0 4) i cap)):=Qu (by kernel_rfl) (fun _=>hcap)
   rwa [T0] at h
  refine roB [(4,.slice ad i cap)] hF (oX (.run [] (Instr.sliceAt 54 (.slice ad l'.length cap) none (some (iv i)) none) (.slice ad i cap)) hob A4) fun a hF=>?_;have hS2:=hS.arrTake (i:=0) (k:=i) rfl MsgC.cells_len (by simp;omega);have htl:(l'.take i++List.replicate (l'.length-i) (⟨⟨⟨#[]⟩,0,0⟩,none,0,0⟩:MsgC)).take i=l.filter fun x=>!pred x:=by
   rw [List.take_append_of_le_length (by rw [List.length_take];omega),List.take_take,Nat.min_self,hA]
  rw [htl] at hS2;refine wpIn_ret (A6 [.tmp 4] [_] hF rfl ⟨rfl,trivial⟩ ⟨_,rfl,?_,?_⟩)
  ·unfold sv;rw [hlen]
  ·rw [hlen];exact hS2
end Go.Proofs.YtkbjbnkkfifbmaaGreat
