import Derived.Test.YtjfhcbjhjeklbaaGreatT3XD
set_option linter.unusedVariables false
set_option linter.unusedSimpArgs false
set_option linter.unusedSectionVars false
namespace Go.Proofs.YtjfhcbjhjeklbaaGreat
open Go Go.RowKit Go.Eng
set_option linter.unusedVariables false
set_option maxRecDepth 10000
set_option maxHeartbeats 4000000
theorem B2r {μ:Frz} {css:List (List Value)} {l:List (List api_Span)} (h:All2 (Rp53 μ) css l):∀v∈css.flatMap (fN 1),v.oneCell'=true:=by
 intro v hv;obtain ⟨c,hc,hv⟩:=List.mem_flatMap.1 hv;exact List.all_eq_true.1 (ArrQ.one h Rp53.one c hc) v hv
theorem A0m {w:World} {ad:Option Addr} {n cap:Nat} {l:List (List Value)} (h:Arr w 1 (fN 1) ad n cap l) (h0:0<n):∃q,ad=some q/\∀j v,(l.flatMap (fN 1))[j]? = some v->w.cell? (q.add j)=some v:=by
 obtain ⟨hl,ad',cap',e,_,_,_,h5⟩:=h
 cases e
 obtain ⟨q,rfl,_,h8⟩:=h5 (by omega);exact ⟨q,rfl,h8⟩
theorem B1o {w:World} {q:Addr} {v:Value} (h:w.cell? q=some v):∃t k,w.shape? q.block=some (t,k+1):=by
 unfold World.cell? at h;unfold World.shape?
 cases e:w.heap[q.block]? with
 | none=>rw [e] at h;cases h
 | some o =>
  rw [e] at h
  cases o with
  | cells c t fz =>
   simp only at h ⊢
   split at h
   ·cases h
   ·have:=(Array.getElem?_eq_some_iff.1 h).1;exact ⟨t,c.size-1,by rw [Nat.sub_add_cancel (by omega)]⟩
  | _=>simp at h
theorem slG {g lo cap:Nat} (h:lo<cap):Az (some ⟨g,0,none⟩) cap lo 1=some ⟨g,lo,none⟩:=by
 unfold Az;rw [if_neg (by omega)];simp [Addr.add];intro h;exact h.symm
theorem B7h {g cap:Nat}:Az (some ⟨g,0,none⟩) cap 0 1=some ⟨g,0,none⟩:=by
 unfold Az
 split
 ·rfl
 ·simp [Addr.add]
theorem B70 (g i j:Nat):(⟨g,i,none⟩:Addr).add j=(⟨g,0,none⟩:Addr).add (i+j):=by
 unfold Addr.add
 by_cases hj:j=0
 ·subst hj
  by_cases hi:i=0
  ·subst hi;rfl
  ·rw [if_pos rfl,if_neg (by omega)];simp
 ·rw [if_neg hj,if_neg (by omega)];simp
theorem A9c {w:World} {g n cap i e:Nat} {c:List (List Value)} (h:(arr e 1 (fN 1) (some ⟨g,0,none⟩) n cap c).holds w) (hi:i<=n):∀j v,((c.drop i).flatMap (fN 1))[j]? = some v->w.cell? ((⟨g,i,none⟩:Addr).add j)=some v:=by
 have hcell:=World.ownsRow.cells h.2 (g:=g) rfl;have hl:=h.1;have hf1:∀c':List (List Value),(c'.flatMap (fN 1)).length=c'.length:=λc'=>by rw [Ft (C1 1),Nat.mul_one]
 have hd:(c.drop i).flatMap (fN 1)=(c.flatMap (fN 1)).drop i:=by
  have e2:c.flatMap (fN 1)=(c.take i).flatMap (fN 1)++(c.drop i).flatMap (fN 1):=by rw [←List.flatMap_append,List.take_append_drop]
  rw [e2,List.drop_left' (by rw [hf1,List.length_take];omega)]
 intro j v hj;rw [hd,List.getElem?_drop] at hj;rw [B70];exact hcell _ _ hj
theorem obL {T:World->World->Prop} {D:World->Prop} {g n c lo:Nat} (h:lo<c) (h2:lo<=n):Ob.ok Tryz.prog T D (.run [] (Instr.sliceAt 160 (.slice (some ⟨g,0,none⟩) n c) (some (iv lo)) none none) (.slice (some ⟨g,lo,none⟩) (n-lo) (c-lo))):=by
 have:=Yx (P:=Tryz.prog) (cs:=[]) (T:=T) (D:=D) (ad:=some ⟨g,0,none⟩) (cap:=c) (n:=n) (lo:=lo) (t:=160) (sz:=1) (by kernel_rfl) (λ_=>h2);rw [slG h] at this;exact this
theorem obH {T:World->World->Prop} {D:World->Prop} {g n c hi:Nat} (h:hi<=c):Ob.ok Tryz.prog T D (.run [] (Instr.sliceAt 160 (.slice (some ⟨g,0,none⟩) n c) none (some (iv hi)) none) (.slice (some ⟨g,0,none⟩) hi c)):=by
 have:=A2z (P:=Tryz.prog) (cs:=[]) (T:=T) (D:=D) (ad:=some ⟨g,0,none⟩) (cap:=c) (n:=n) (hi:=hi) (t:=160) (sz:=1) (by kernel_rfl) (λ_=>h);rw [B7h] at this;exact this
theorem A8o {α:Type} {c c0 v:List α} {i n:Nat} (hc:c.length=n) (hi:i<=n) (hv:v.length=1) (h0:c0.length=n+1) (ht:c0.take i=c.take i) :
  (c0.take i++v++c0.drop (i+1)).take (i+1)++c.drop i++(c0.take i++v++c0.drop (i+1)).drop (i+1+(c.drop i).length)=c.take i++v++c.drop i:=by
 have e1:(c0.take i++v).length=i+1:=by simp;omega
 have e2:(c0.take i++v++c0.drop (i+1)).drop (i+1+(c.drop i).length)=[]:=List.drop_eq_nil_of_le (by simp;omega);rw [e2,List.take_left' e1,List.append_nil,ht]
theorem A8p {α:Type} {c v:List α} {z:α} {i n:Nat} (hc:c.length=n) (hi:i<n) (hv:v.length=1) :
  ((c++[z]).take (i+1)++c.drop i++(c++[z]).drop (i+1+(c.drop i).length)).take i++v++((c++[z]).take (i+1)++c.drop i++(c++[z]).drop (i+1+(c.drop i).length)).drop (i+v.length)=c.take i++v++c.drop i:=by
 have e0:(c++[z]).drop (i+1+(c.drop i).length)=[]:=List.drop_eq_nil_of_le (by simp;omega);have e1:(c++[z]).take (i+1)=c.take (i+1):=List.take_append_of_le_length (by omega);have e2:(c.take (i+1)).length=i+1:=by simp;omega
 rw [e0,List.append_nil,e1,hv,List.drop_left' e2,List.take_append_of_le_length (by omega),List.take_take,Nat.min_eq_left (by omega)]
theorem W5 (F:Nat) (p0:(List (List api_Span))) (p1:Int) (p2:(List (List api_Span))) (res:(List (List api_Span))) (h:Mk F p0 p1 p2=some res) (μ:Frz) (w0 w1:World) (T_:List Res) (hlow:Ak w0 μ) {ad1:Option Addr} {cap2:Nat} {css3:List (List Value)} {ad5:Option Addr} {cap6:Nat} {css7:List (List Value)} (hq4:All2 (Rp53 μ) css3 p0) (hA8:ArrQ μ 1 Rp53 ad5 cap6 css7 p2) (hS:St w0 (Eo w0.heap.size μ::arr 53 1 (fN 1) ad1 p0.length cap2 css3::T_) w1):Fg Tryz.prog 71 #[.slice ad1 p0.length cap2,.int .i64 p1,.slice ad5 p2.length cap6] w1 (λe w=>∃(ν_:Frz) (ad9:Option Addr) (cap10:Nat) (css11:List (List Value)),μ.ext w0.heap.size ν_/\Ak w0 ν_/\e=(.slice ad9 res.length cap10)/\(All2 (Rp53 ν_) css11 res)/\St w0 (Eo w0.heap.size ν_::arr 53 1 (fN 1) ad9 res.length cap10 css11::T_) w):=by
 unfold Mk at h
 split at h
 ·rename_i hb
  obtain ⟨hi0,hi1,hl2,hl⟩:=hb;obtain ⟨i,rfl⟩:=Int.eq_ofNat_of_zero_le hi0
  cases h
  rw [Int.toNat_natCast];have hl7:css7.length=1:=by rw [hA8.2.len];exact hl2
  have hl3:css3.length=p0.length:=hq4.len;have hlr:(p0.take i++p2++p0.drop i).length=p0.length+1:=by simp [hl2];omega
  have hrel:All2 (Rp53 μ) (css3.take i++css7++css3.drop i) (p0.take i++p2++p0.drop i):=((hq4.take i).app hA8.2).app (hq4.drop i)
  by_cases hin:i=p0.length
  ·
   subst hin;rw [List.take_length,List.drop_length,List.append_nil] at *;refine feW Tryz.func71 95 [(0,.slice ad1 p0.length cap2),(1,iv p0.length),(2,.slice ad5 p2.length cap6)] hS λa w hF hS=>?_;have hap:apd 24 css3 css7=some (css3++css7):=by
    unfold apd;rw [if_pos];rw [hl7,hl3];omega
   refine qnB [] hF λa hF=>?_;refine qoB [] hF (oX (.run [] (Instr.sliceAt 160 (.slice ad1 p0.length cap2) (some (iv p0.length)) none none) (.slice (Az ad1 cap2 p0.length 1) (p0.length-p0.length) (cap2-p0.length))) (Yx (sz:=1) (by kernel_rfl) (λ_=>Nat.le_refl _))<|A6) λa hF=>?_;rw [←hA8.2.len,←hl3] at hF;rw [←hl3] at hS;refine qnB [(7,iv css7.length)] hF λa hF=>?_;refine Ad<|qnB [(16,.bool ((css7.length:Int)==0))] hF λa hF=>?_;refine Ns hF rfl (λhc=>by rw [hl7] at hc;cases hc) λ_=>?_
   refine wpIn_skip (A7 ?_);refine qnB [(8,iv css3.length)] hF λa hF=>?_;refine Ad<|qnB [(22,.bool ((css3.length:Int)==css3.length))] hF λa hF=>?_;refine Ns hF rfl (λ_=>?_) λhc=>by simp at hc
   refine esr<|rn 2 2 [(23,.slice ad1 css3.length cap2),(24,.slice ad5 css7.length cap6)] (hF.sub (M':=[(0,.slice ad1 css3.length cap2),(2,.slice ad5 css7.length cap6)]) (by kernel_rfl)) λa hF=>?_;refine SK.wi (qP 160 160 1 (bytes:=24) (λad2 cap2=>[(25,.slice ad2 (css3++css7).length cap2)]) hF hS (hA8.1 _ (hS.frz (i:=0) rfl hlow)) hap rfl (h1:=ArrQ.one hA8.2 Rp53.one) λad2 cap2 w a hF hS=>?_);refine rn 1 4 [(6,.slice ad2 (css3++css7).length cap2)] hF λa hF=>wfn rfl ?_;have e:(css3++css7).length=(p0++p2).length:=by rw [List.length_append,List.length_append,hl3,hl7,hl2]
   refine wpIn_ret (Ao<|Bz [.tmp 6] [_] hF rfl ⟨rfl,trivial⟩ ⟨_,rfl,μ,ad2,cap2,css3++css7,Frz.ext_refl _ _,hlow,?_,All2.app hq4 hA8.2,?_⟩)
   ·show Value.slice ad2 (css3++css7).length cap2=_;rw [e]
   ·rw [←e];exact hS
  ·
   have hil:i<p0.length:=by omega
   obtain ⟨g,cur,rfl,hg,hnc,hcm,hcs,htake,hcl⟩:=T5 (hS.holds _ (List.mem_of_getElem? (i:=1) rfl)) (by omega);obtain ⟨q,rfl,hqc⟩:=A0m (hA8.1 _ (hS.frz (i:=0) rfl hlow)) (by omega);have hgn:μ g=none:=hS.frz_none (i:=0) (j:=1) rfl rfl (by decide) (g:=g) rfl;have hqg:q.block≠g:=A3p hA8.1 (C1 1) (hS.frz (i:=0) rfl hlow) (by omega) (by decide) hgn;have hone7:=B2r hA8.2;have hone3:∀v∈(css3.drop i).flatMap (fN 1),v.oneCell'=true:=λv hv=>by
    obtain ⟨c,hc,hv⟩:=List.mem_flatMap.1 hv;exact B2r hq4 v (List.mem_flatMap.2 ⟨c,List.mem_of_mem_drop hc,hv⟩)
   have e1:ck ((p0.length:Int)+(1:Int))=some ((p0.length+1:Nat):Int):=by unfold ck;rw [if_pos (by omega)];exact congrArg some (by omega)
   have e1i:ck ((i:Int)+(1:Int))=some ((i+1:Nat):Int):=by unfold ck;rw [if_pos (by omega)];exact congrArg some (by omega)
   have e2:ck (((p0.length+1:Nat):Int)-(i:Int))=some ((p0.length+1-i:Nat):Int):=by unfold ck;rw [if_pos (by omega)];exact congrArg some (by omega)
   have hcm':cap2<=9223372036854775807:=by unfold maxLen at hcm;omega
   rw [hl2];refine feW Tryz.func71 95 [(0,.slice (some ⟨g,0,none⟩) p0.length cap2),(1,iv i),(2,.slice (some q) 1 cap6)] hS λa w hF hS=>?_;refine qnB [] hF λa hF=>?_;refine qoB [] hF (oX _ (obL (g:=g) (n:=p0.length) (c:=cap2) (lo:=i) (by omega) (by omega))<|A6) λa hF=>?_;refine qnB [(7,iv 1)] hF λa hF=>?_;refine Ad<|qnB [(16,.bool false)] hF λa hF=>?_;refine Ns hF rfl (λhc=>by cases hc) λ_=>?_
   refine wpIn_skip (A7 ?_);refine qnB [(8,iv p0.length)] hF λa hF=>?_;refine Ad<|qnB [(22,.bool ((i:Int)==p0.length))] hF λa hF=>?_;refine Ns hF rfl (λhc=>by
    have h5:(i:Int)=(p0.length:Int):=by simpa using hc
    omega) λ_=>?_
   refine wpIn_skip (A7 ?_);refine Ad<|qoB [(31,.bool (decide (((p0.length+1:Nat):Int)>(cap2:Int))))] hF (oA 3 e1 A6) λa hF=>?_;replace hF:=hF.sub (M':=[(0,.slice (some ⟨g,0,none⟩) p0.length cap2),(1,iv i),(2,.slice (some q) 1 cap6),(7,iv 1),(8,iv p0.length),(31,.bool (decide (((p0.length+1:Nat):Int)>(cap2:Int))))]) (by kernel_rfl);refine Ns hF rfl (λhc=>?_) λhc=>?_
   ·
    have hno:cap2<p0.length+1:=by have:=of_decide_eq_true hc;omega
    have e2':i+(p0.length+1-i)=p0.length+1:=by omega
    have hd3:(css3.drop i).length=p0.length-i:=by simp;omega
    have e1i:ck ((i:Int)+(1:Int))=some ((i+1:Nat):Int):=by unfold ck;rw [if_pos (by omega)];exact congrArg some (by omega)
    refine esr<|qo 8 8 [(34,.slice (some ⟨g,0,none⟩) i cap2),(39,iv (p0.length+1-i:Nat))] hF (oX _ (obH (g:=g) (n:=p0.length) (c:=cap2) (hi:=i) (by omega))<|oA 3 e1<|oS 3 e2 A6) λa hF=>?_;have hF2:=hF.sub (M':=[(0,.slice (some ⟨g,0,none⟩) p0.length cap2),(1,iv i),(2,.slice (some q) 1 cap6),(7,iv 1),(34,.slice (some ⟨g,0,none⟩) i cap2),(39,iv (p0.length+1-i:Nat))]) (by kernel_rfl);refine SK.wi (B53 (e:=53) (bytes:=24) (t:=160) (ty:=160) (tn:=3) (kq':=.i64) (i:=1) (j:=i) (m:=p0.length+1-i) (n:=p0.length) (cap:=cap2) (c:=css3) (zv:=.slice none 0 0) (z:=[]) (λb c=>[(0,.slice (some ⟨g,0,none⟩) p0.length cap2),(1,iv i),(2,.slice (some q) 1 cap6),(7,iv 1),(40,.slice (some ⟨b,0,none⟩) (i+(p0.length+1-i)) c)]) hF2 hS rfl (by kernel_rfl) ⟨by kernel_rfl⟩ (by kernel_rfl) (by kernel_rfl) (λinf hinf=>?_) rfl (by omega) (by omega) (by omega) (by omega) (by omega) (by omega) (λb c=>⟨by kernel_rfl⟩) ?_)
    ·have hz:(Tryz.prog.info? 53).bind (·.zero)=some (.slice none 0 0):=by kernel_rfl
     rw [hinf] at hz;exact hz
    intro b c2 w2 a hF hbw hold2 hc2 hc63 hS;rw [e2'] at hF hS hc2;refine rn 1 10 [(0,.slice (some ⟨g,0,none⟩) p0.length cap2),(1,iv i),(2,.slice (some q) 1 cap6),(7,iv 1),(9,.slice (some ⟨b,0,none⟩) (p0.length+1) c2)] hF λa hF=>wfn rfl ?_;refine esr<|qo 4 4 [(43,.slice (some ⟨b,i,none⟩) (p0.length+1-i) (c2-i)),(44,.slice (some q) 1 cap6)] hF (oX _ (obL (g:=b) (n:=p0.length+1) (c:=c2) (lo:=i) (by omega) (by omega)) A6) λa hF=>?_;replace hF:=hF.sub (M':=[(0,.slice (some ⟨g,0,none⟩) p0.length cap2),(1,iv i),(7,iv 1),(9,.slice (some ⟨b,0,none⟩) (p0.length+1) c2),(43,.slice (some ⟨b,i,none⟩) (p0.length+1-i) (c2-i)),(44,.slice (some q) 1 cap6)]) (by kernel_rfl);have hq2:=A0m (hA8.1 _ (hS.frz (i:=1) rfl hlow)) (by omega);obtain ⟨q',hq',hqc2⟩:=hq2
    cases hq'
    refine SK.wi (A59 (e:=53) (bytes:=24) (t:=160) (ty:=3) (t2:=160) (i:=0) (g:=b) (k0:=i) (n:=p0.length+1) (cap:=c2) (l':=css7) (dl:=p0.length+1-i) (dcap:=c2-i) (sl:=1) (scap:=cap6) [(0,.slice (some ⟨g,0,none⟩) p0.length cap2),(1,iv i),(7,iv 1),(9,.slice (some ⟨b,0,none⟩) (p0.length+1) c2)] hF hS rfl (by kernel_rfl) ⟨by kernel_rfl⟩ (by kernel_rfl) (by omega) (by omega) (by rw [hl7];exact (Nat.min_eq_left (by omega)).symm) hqc2 hone7 ⟨by kernel_rfl⟩ ?_);intro w3 a hF hoth hS;refine wfn rfl ?_;refine Ad<|An 9 [8] (λa w=>Fr 95 [] [(9,.slice (some ⟨b,0,none⟩) (p0.length+1) c2)] a/\St w0 (Eo w0.heap.size μ::arr 53 1 (fN 1) (some ⟨b,0,none⟩) (p0.length+1) c2 (css3.take i++css7++css3.drop i)::T_) w) (D:=λ_=>True) (by kernel_rfl) (by kernel_rfl) hF.size (λw hx=>?_) ?_
    ·replace hS:=hS.later hx;refine ⟨trivial,WT.s [0,1,2,3,4,5,6,7] [8] (by kernel_rfl) (by kernel_rfl) ?_⟩;refine qC 8 [(50,.slice (some ⟨b,i+1,none⟩) (p0.length+1-(i+1)) (c2-(i+1))),(53,.slice (some ⟨g,i,none⟩) (p0.length-i) (cap2-i))] hF (oA 3 e1i<|oX _ (obL (g:=b) (n:=p0.length+1) (c:=c2) (lo:=i+1) (by omega) (by omega))<|oX _ (obL (g:=g) (n:=p0.length) (c:=cap2) (lo:=i) (by omega) (by omega)) A6) λa hF=>WRun.fin<|all_cons ?_ Av;replace hF:=hF.sub (M':=[(9,.slice (some ⟨b,0,none⟩) (p0.length+1) c2),(50,.slice (some ⟨b,i+1,none⟩) (p0.length+1-(i+1)) (c2-(i+1))),(53,.slice (some ⟨g,i,none⟩) (p0.length-i) (cap2-i))]) (by kernel_rfl);refine A59 (e:=53) (bytes:=24) (t:=160) (ty:=3) (t2:=160) (i:=0) (g:=b) (k0:=i+1) (n:=p0.length+1) (cap:=c2) (l':=css3.drop i) (dl:=p0.length+1-(i+1)) (dcap:=c2-(i+1)) (sl:=p0.length-i) (scap:=cap2-i) [(9,.slice (some ⟨b,0,none⟩) (p0.length+1) c2)] hF hS rfl (by kernel_rfl) ⟨by kernel_rfl⟩ (by kernel_rfl) (by omega) (by omega) (by rw [hd3];exact (Nat.min_eq_left (by omega)).symm) (A9c (hS.holds _ (List.mem_of_getElem? (i:=2) rfl)) (by omega)) hone3 ⟨by kernel_rfl⟩ ?_;intro w4 a hF hoth hS;refine ⟨trivial,WT.z [] (by kernel_rfl) (WRun.fin ⟨hF,?_⟩)⟩;have hS:=St.pickT (A:=[_,_,_]) [1,0] (by decide) hS;have el:=A8o (c:=css3) (c0:=css3.take i++List.replicate (p0.length+1-i) [Value.slice none 0 0]) (v:=css7) (i:=i) (n:=p0.length) hl3 (by omega) hl7 (by simp;omega) (List.take_left' (by simp;omega));rw [hl7] at hS;rw [el] at hS;exact hS
    ·rintro a w ⟨hF,hS⟩;refine wfn rfl ?_;refine esr<|rn 2 2 [(6,.slice (some ⟨b,0,none⟩) (p0.length+1) c2)] hF λa hF=>wfn rfl ?_;refine wpIn_ret (Ao<|Bz [.tmp 6] [_] hF rfl ⟨rfl,trivial⟩ ⟨_,rfl,μ,some ⟨b,0,none⟩,c2,_,Frz.ext_refl _ _,hlow,by rw [hlr],hrel,by rw [hlr];exact hS⟩)
   ·
    have hroom:p0.length+1<=cap2:=by have:=of_decide_eq_false hc;omega
    have hd3:(css3.drop i).length=p0.length-i:=by simp;omega
    have e1i:ck ((i:Int)+(1:Int))=some ((i+1:Nat):Int):=by unfold ck;rw [if_pos (by omega)];exact congrArg some (by omega)
    refine wpIn_skip (A7 ?_);refine esr<|ro 6 6 [(0,.slice (some ⟨g,0,none⟩) (p0.length+1) cap2),(1,iv i),(2,.slice (some q) 1 cap6),(7,iv 1)] hF (oA 3 e1<|oX _ (obH (g:=g) (n:=p0.length) (c:=cap2) (hi:=p0.length+1) hroom) A6) λa hF=>wfn rfl ?_;obtain ⟨z,hS⟩:=hS.more (i:=1) rfl (by omega) (by omega);obtain ⟨g',cur',hgg,hg2,_,_,hcs2,_,_⟩:=T5 (hS.holds _ (List.mem_of_getElem? (i:=1) rfl)) (by omega)
    cases hgg
    obtain ⟨q',hq',hqc2⟩:=A0m (hA8.1 _ (hS.frz (i:=0) rfl hlow)) (by omega)
    cases hq'
    obtain ⟨tA,kA,hsa⟩:∃t k,w.shape? q.block=some (t,k+1):=by
     have hfl:(css7.flatMap (fN 1)).length=1:=by rw [Ft (C1 1),hl7]
     have:=hqc2 0 _ (List.getElem?_eq_getElem (by omega));obtain ⟨t,k,h⟩:=B1o this;have hb:(q.add 0).block=q.block:=by unfold Addr.add;rw [if_pos rfl]
     rw [hb] at h;exact ⟨t,k,h⟩
    have hty:Jl Tryz.prog 160 53 1 24=true:=by kernel_rfl
    obtain ⟨inf,zv,ht,hinf,_⟩:=G0 hty;refine Ad<|esr<|qo 6 6 [(61,.slice (some q) 1 cap6),(66,.slice (some ⟨g,i+1,none⟩) (p0.length+1-(i+1)) (cap2-(i+1)))] hF (oA 3 e1i<|oX _ (obL (g:=g) (n:=p0.length+1) (c:=cap2) (lo:=i+1) (by omega) (by omega)) A6) λa hF=>?_;replace hF:=hF.sub (M':=[(0,.slice (some ⟨g,0,none⟩) (p0.length+1) cap2),(1,iv i),(2,.slice (some q) 1 cap6),(7,iv 1),(61,.slice (some q) 1 cap6),(66,.slice (some ⟨g,i+1,none⟩) (p0.length+1-(i+1)) (cap2-(i+1)))]) (by kernel_rfl);refine SK.wi (ovK (e:=53) (fid:=102) (tS:=160) (tR:=4) (p:=q) (b:=⟨g,i+1,none⟩) (la:=1) (ca:=cap6) (lb:=p0.length+1-(i+1)) (cb:=cap2-(i+1)) (size:=inf.size) (kA:=kA) (tA:=tA) (tB:=53) (cur:=cur') (M':=[(0,.slice (some ⟨g,0,none⟩) (p0.length+1) cap2),(1,iv i),(2,.slice (some q) 1 cap6),(7,iv 1),(67,.bool false)]) hF (by kernel_rfl) ⟨by kernel_rfl⟩ Tryz.func102 (by kernel_rfl) (by kernel_rfl) (by kernel_rfl) (by kernel_rfl) ht (λw=>by simp [sizeOf,typeInfo,hinf]) hqg hsa hg2 (by omega) ⟨by kernel_rfl⟩ λa hF=>?_);refine rn 1 8 [(0,.slice (some ⟨g,0,none⟩) (p0.length+1) cap2),(1,iv i),(2,.slice (some q) 1 cap6),(7,iv 1),(68,.bool true)] hF λa hF=>wfn rfl ?_;refine Ns hF rfl (λ_=>?_) (λhc=>by cases hc)
    refine Ad<|An 9 [8] (λa w=>Fr 95 [] [(0,.slice (some ⟨g,0,none⟩) (p0.length+1) cap2),(1,iv i),(2,.slice (some q) 1 cap6)] a/\St w0 (Eo w0.heap.size μ::arr 53 1 (fN 1) (some ⟨g,0,none⟩) (p0.length+1) cap2 ((css3++[z]).take (i+1)++css3.drop i++(css3++[z]).drop (i+1+(css3.drop i).length))::T_) w) (D:=λ_=>True) (by kernel_rfl) (by kernel_rfl) hF.size (λw hx=>?_) ?_
    ·replace hS:=hS.later hx;refine ⟨trivial,WT.s [0,1,2,3,4,5,6,7] [8] (by kernel_rfl) (by kernel_rfl) ?_⟩;refine qC 8 [(73,.slice (some ⟨g,i+1,none⟩) (p0.length+1-(i+1)) (cap2-(i+1))),(76,.slice (some ⟨g,i,none⟩) (p0.length+1-i) (cap2-i))] hF (oA 3 e1i<|oX _ (obL (g:=g) (n:=p0.length+1) (c:=cap2) (lo:=i+1) (by omega) (by omega))<|oX _ (obL (g:=g) (n:=p0.length+1) (c:=cap2) (lo:=i) (by omega) (by omega)) A6) λa hF=>WRun.fin<|all_cons ?_ Av;replace hF:=hF.sub (M':=[(0,.slice (some ⟨g,0,none⟩) (p0.length+1) cap2),(1,iv i),(2,.slice (some q) 1 cap6),(73,.slice (some ⟨g,i+1,none⟩) (p0.length+1-(i+1)) (cap2-(i+1))),(76,.slice (some ⟨g,i,none⟩) (p0.length+1-i) (cap2-i))]) (by kernel_rfl);refine A59 (e:=53) (bytes:=24) (t:=160) (ty:=3) (t2:=160) (i:=1) (g:=g) (k0:=i+1) (n:=p0.length+1) (cap:=cap2) (l':=css3.drop i) (q:=⟨g,i,none⟩) (dl:=p0.length+1-(i+1)) (dcap:=cap2-(i+1)) (sl:=p0.length+1-i) (scap:=cap2-i) [(0,.slice (some ⟨g,0,none⟩) (p0.length+1) cap2),(1,iv i),(2,.slice (some q) 1 cap6)] hF hS rfl (by kernel_rfl) ⟨by kernel_rfl⟩ (by kernel_rfl) (by omega) (by omega) (by rw [hd3];show p0.length-i=min (p0.length+1-i) (p0.length+1-(i+1));omega) ?_ hone3 ⟨by kernel_rfl⟩ ?_
     ·intro j v hj;refine A9c (hS.holds _ (List.mem_of_getElem? (i:=1) rfl)) (by omega) j v ?_;rw [List.drop_append_of_le_length (by omega),List.flatMap_append,List.getElem?_append_left (List.getElem?_eq_some_iff.1 hj).1];exact hj
     intro w4 a hF hoth hS;exact ⟨trivial,WT.z [] (by kernel_rfl) (WRun.fin ⟨hF,hS⟩)⟩
    ·rintro a w ⟨hF,hS⟩;refine wfn rfl ?_;refine esr<|qo 4 4 [(80,.slice (some ⟨g,i,none⟩) (p0.length+1-i) (cap2-i)),(81,.slice (some q) 1 cap6)] hF (oX _ (obL (g:=g) (n:=p0.length+1) (c:=cap2) (lo:=i) (by omega) (by omega)) A6) λa hF=>?_;replace hF:=hF.sub (M':=[(0,.slice (some ⟨g,0,none⟩) (p0.length+1) cap2),(80,.slice (some ⟨g,i,none⟩) (p0.length+1-i) (cap2-i)),(81,.slice (some q) 1 cap6)]) (by kernel_rfl);obtain ⟨q',hq',hqc3⟩:=A0m (hA8.1 _ (hS.frz (i:=0) rfl hlow)) (by omega)
     cases hq'
     refine SK.wi (A59 (e:=53) (bytes:=24) (t:=160) (ty:=3) (t2:=160) (i:=1) (g:=g) (k0:=i) (n:=p0.length+1) (cap:=cap2) (l':=css7) (dl:=p0.length+1-i) (dcap:=cap2-i) (sl:=1) (scap:=cap6) [(0,.slice (some ⟨g,0,none⟩) (p0.length+1) cap2)] hF hS rfl (by kernel_rfl) ⟨by kernel_rfl⟩ (by kernel_rfl) (by omega) (by omega) (by rw [hl7];exact (Nat.min_eq_left (by omega)).symm) hqc3 hone7 ⟨by kernel_rfl⟩ ?_);intro w5 a hF hoth hS;refine wfn rfl ?_;have hS:St w0 (Eo w0.heap.size μ::arr 53 1 (fN 1) (some ⟨g,0,none⟩) (p0.length+1) cap2 (((css3++[z]).take (i+1)++css3.drop i++(css3++[z]).drop (i+1+(css3.drop i).length)).take i++css7++((css3++[z]).take (i+1)++css3.drop i++(css3++[z]).drop (i+1+(css3.drop i).length)).drop (i+css7.length))::T_) w5:=hS;rw [A8p (c:=css3) (z:=z) (v:=css7) (i:=i) (n:=p0.length) hl3 hil hl7] at hS;refine esr<|rn 2 2 [(6,.slice (some ⟨g,0,none⟩) (p0.length+1) cap2)] hF λa hF=>wfn rfl ?_;refine wpIn_ret (Ao<|Bz [.tmp 6] [_] hF rfl ⟨rfl,trivial⟩ ⟨_,rfl,μ,some ⟨g,0,none⟩,cap2,_,Frz.ext_refl _ _,hlow,by rw [hlr],hrel,by rw [hlr];exact hS⟩)
 ·cases h
end Go.Proofs.YtjfhcbjhjeklbaaGreat
