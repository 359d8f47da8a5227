import Derived.Test.YtjfhcbjhjeklbaaGreatT3WvN
set_option linter.unusedVariables false
set_option linter.unusedSimpArgs false
set_option linter.unusedSectionVars false
namespace Go.Proofs.YtjfhcbjhjeklbaaGreat
open Go Go.RowKit Go.Eng Go.Sort Go.Shelf Go.Lib
set_option linter.unusedVariables false
set_option maxHeartbeats 4000000
set_option maxRecDepth 100000
variable {μ:Frz}
theorem enL:∀{css:List (List Value)} {p0:List volume_entry},All2 (Rp86 μ) css p0->(∀s∈p0,enB s)->∃L:List (EnA μ),L.map (·.val.1)=css/\L.map (·.val.2)=p0
 | _,_,.nil,_=>⟨[],rfl,rfl⟩
 | c::css,s::p0,.cons h t,hb=>by
  obtain ⟨L,h1,h2⟩:=enL t (λx hx=>hb x (List.mem_cons_of_mem _ hx));exact ⟨⟨(c,s),h,hb s List.mem_cons_self⟩::L,by rw [List.map_cons,h1],by rw [List.map_cons,h2]⟩
theorem B37:∀L:List (EnA μ),All2 (Rp86 μ) (L.map (·.val.1)) (L.map (·.val.2))
 | []=>.nil
 | x::L=>.cons x.property.1 (B37 L)
theorem A65 (L:List (EnA μ)) (a:Option Addr) (m c:Nat):arr 86 2 Gm a m c L=arr 86 2 (fN 2) a m c (L.map (·.val.1)):=by
 unfold arr
 congr 1
 ·funext w
  simp only [List.length_map,List.flatMap_map];rfl
theorem A2o {w0 w:World} {H:List Res} {i j n cap b:Nat} {L:List (EnA μ)} (hlow:Ak w0 μ) (hS:St w0 H w) (hi:H[i]? = some (arr 86 2 Gm (some ⟨b,0,none⟩) n cap L)) (hj:H[j]? = some (Eo w0.heap.size μ)) (hij:i≠j) :
  ∀m os (dk:Array (EnA μ)),dk.size=n->FrzAt μ (sortWorldK Gm 2 w b 0 m dk os):=λm os dk hdk =>
 (Tx Li (by decide) hS hi dk hdk m os).frz (i:=j) (by rw [List.getElem?_set_ne hij];exact hj) hlow
theorem A3e {H:List Res} {i:Nat} {R:Res} (h:H[i]? = some R):H.set i R=H:=by
 apply List.ext_getElem?;intro j;rw [List.getElem?_set]
 split
 ·rename_i hij;subst hij;split
  ·exact h.symm
  ·rename_i hlt;rw [List.getElem?_eq_none (by omega)]
 ·rfl
theorem U6 (F:Nat) (p0 res:List volume_entry) (h:L6 F p0=some res) {w0 w:World} {H:List Res} {i j cap:Nat} {ad:Option Addr} {css:List (List Value)} (hq:All2 (Rp86 μ) css p0) (hlow:Ak w0 μ) (hS:St w0 H w)
  (hi:H[i]? = some (arr 86 2 (fN 2) ad p0.length cap css)) (hj:H[j]? = some (Eo w0.heap.size μ)) (hij:i≠j) :
  Calls Tryz.prog 22 #[.slice ad p0.length cap,.func (.func 23) #[] #[]] w λe w'=>e=.returned (.tuple #[])/\∃css',p0.length=res.length/\All2 (Rp86 μ) css' res/\St w0 (H.set i (arr 86 2 (fN 2) ad res.length cap css')) w':=by
 unfold L6 at h
 split at h
 ·rename_i hb
  cases h
  obtain ⟨L,e1,e2⟩:=enL hq hb.1;have hlen:L.length=p0.length:=by rw [←e2];simp
  obtain ⟨s1,s2,s3⟩:=Ny enC A5e L;have hres:(Sg enC L).map (·.val.2)=p0.mergeSort λx y=>decide (Dk x y<=0):=by
   refine A6h ?_ ?_
   ·rw [←e2];exact s2.map _
   ·rw [List.pairwise_map];exact s3
  rw [←hres];have hl2:p0.length=((Sg enC L).map (·.val.2)).length:=by simp [s1,hlen]
  rw [←e1,←A65] at hi;have hh:=hS.holds _ (List.mem_of_getElem? hi)
  cases ad with
  | none =>
   have h0:L=[]:=by
    obtain ⟨_,_,hx⟩:=hh;rcases hx with ⟨_,hx⟩|⟨g,c,cur,hv,_⟩
    ·exact List.length_eq_zero_iff.1 (by omega)
    ·cases hv
   subst h0;have hp0:p0=[]:=by rw [←e2];rfl
   subst hp0;refine (A3f cap w).mono ?_;rintro e w' ⟨rfl,rfl⟩;have e0:Sg enC ([]:List (EnA μ))=[]:=List.length_eq_zero_iff.1 s1;rw [e0];refine ⟨rfl,[],rfl,.nil,?_⟩;have:(arr 86 2 (fN 2) none ([]:List volume_entry).length cap ([]:List (List Value)))=arr 86 2 Gm none ([]:List volume_entry).length cap ([]:List (EnA μ)):=(A65 ([]:List (EnA μ)) _ _ _).symm;show St w0 (H.set i (arr 86 2 (fN 2) none ([]:List volume_entry).length cap ([]:List (List Value)))) _;rw [this,A3e hi];exact hS
  | some a =>
   obtain ⟨_,_,hx⟩:=id hh;rcases hx with ⟨hx,_⟩|⟨g,c,cur,hv,_⟩
   ·cases hx
   ·cases hv
    have hK:=Wi Li (by decide) hh;have hc:=B4o g cap L.toArray w hK.1 hK.2 (by simp [hlen];exact hb.2) (by
     have:=A2o hlow hS hi hj hij;intro m os dk hdk;exact this m os dk (by simpa [hlen] using hdk))
    have e3:L.toArray.size=p0.length:=by simp [hlen]
    rw [e3] at hc;refine hc.mono ?_;rintro e w' ⟨rfl,m,os,rfl⟩;have hd:(pdq (ltOf enC) L.toArray 0 p0.length (Lib.bitLen p0.length) true true).toList=Sg enC L:=by unfold Sg;rw [hlen]
    have hds:(pdq (ltOf enC) L.toArray 0 p0.length (Lib.bitLen p0.length) true true).size=p0.length:=by
     rw [←Array.length_toList,hd,s1,hlen]
    refine ⟨rfl,(Sg enC L).map (·.val.1),hl2,B37 _,?_⟩;have:=Tx Li (by decide) hS hi _ hds m os;rw [hd,A65] at this;rw [←hl2];exact this
 ·cases h
theorem Zp:∀(l:List volume_entry) (p x:volume_entry),Ul p (l++[x])=Ul p l++(if x.block=(l.getLastD p).block then [] else [x])
 | [],p,x=>by simp [Ul]
 | y::l,p,x=>by
  show Ul p (y::(l++[x]))=_;unfold Ul;rw [Zp l y x,List.getLastD_cons]
  by_cases h:y.block=p.block
  ·rw [if_pos h,if_pos h]
  ·rw [if_neg h,if_neg h];rfl
theorem B2o:∀(l:List volume_entry) (p:volume_entry),(p::l)[l.length]? = some (l.getLastD p)
 | [],p=>rfl
 | y::l,p=>by rw [List.length_cons,List.getElem?_cons_succ,B2o l y,List.getLastD_cons]
theorem A6e {l:List volume_entry} {x y:volume_entry} {m:Nat} (hl:l.length=m+1) (hy:l[m]? = some y):A6d (l++[x])=A6d l++(if x.block=y.block then [] else [x]):=by
 cases l with
 | nil=>simp at hl
 | cons p l =>
  have:l.length=m:=by simpa using hl
  subst this;rw [B2o] at hy
  cases hy
  show p::Ul p (l++[x])=p::(Ul p l)++_;rw [Zp];rfl
theorem A5f (x y:EnA μ):eqE x y=true↔x.val.2.block=y.val.2.block:=by
 have key:∀l:List Int,(∀z∈l,0<=z/\z<256)->sby (bst l)=l:=by
  intro l h;unfold sby bst;simp only [List.map_map]
  conv=>rhs;rw [←List.map_id l]
  apply List.map_congr_left;intro z hz;have:=h z hz;simp only [Function.comp,id];rw [UInt8.toNat_ofNat_of_lt' (show z.toNat<256 by omega)];omega
 unfold eqE;rw [Vx];exact ⟨λh=>by rw [←key _ x.property.2.2,←key _ y.property.2.2,h],λh=>by rw [h]⟩
theorem A2p (L:List (EnA μ)):∀m,m<=L.length->(keptUpTo (kpE L.toArray) L.toArray m).map (·.val.2)=A6d ((L.map (·.val.2)).take m)
 | 0,_=>rfl
 | m+1,h=>by
  have ih:=A2p L m (by omega);have hg:∀i (hi:i<L.length),L.toArray[i]! = L[i]:=λi hi=>by rw [getElem!_pos L.toArray i (by simpa using hi)];simp
  rw [keptUpTo_succ,List.map_append,ih,List.take_add_one];have hx:(L.map (·.val.2))[m]? = some L[m].val.2:=by rw [List.getElem?_map,List.getElem?_eq_getElem (by omega)];rfl
  rw [hx];show _=A6d (_++[L[m].val.2])
  cases m with
  | zero=>rw [hg 0 (by omega)];rfl
  | succ q =>
   have hy:((L.map (·.val.2)).take (q+1))[q]? = some L[q].val.2:=by rw [List.getElem?_take_of_lt (by omega),List.getElem?_map,List.getElem?_eq_getElem (by omega)];rfl
   rw [A6e (by simp;omega) hy]
   congr 1
   unfold kpE;rw [show q+1-1=q from rfl,hg (q+1) (by omega),hg q (by omega)]
   by_cases hE:L[q+1].val.2.block=L[q].val.2.block
   ·rw [if_pos hE,(A5f _ _).2 hE];rfl
   ·rw [if_neg hE];have:eqE L[q+1] L[q]=false:=by
     cases hv:eqE L[q+1] L[q]
     ·rfl
     ·exact absurd ((A5f _ _).1 hv) hE
    rw [this];simp
theorem Y4 (cap:Nat) (w:World):Calls Tryz.prog 25 #[.slice none 0 cap,.func (.func 26) #[] #[]] w λe w'=>e=.returned (.slice none 0 cap)/\w'=w:=by
 go_enter Tryz.func25,Tryz.ntmps25
 go_wp2
 go_ret
 exact ⟨rfl,rfl⟩
theorem B4m {w:World} {b n cap:Nat} {l r:List (EnA μ)} (h:(arr 86 2 Gm (some ⟨b,0,none⟩) n cap (l++r)).holds w):(arr 86 2 Gm (some ⟨b,0,none⟩) l.length cap l).holds w:=by
 obtain ⟨hn,hx,h⟩:=h;have hfl:∀l:List (EnA μ),(l.flatMap Gm).length=l.length*2:=λl=>Ft Li l;rcases h with ⟨h,_⟩|⟨g,cap',cur,hv,hb0,hg,hnc,hcm,hcs,hct⟩
 ·cases h
 ·cases hv
  simp only [List.length_append] at hn;refine ⟨rfl,hfl l,.inr ⟨b,cap,cur,rfl,hb0,hg,by omega,hcm,hcs,?_⟩⟩;have:(cur.toList.take (n*2)).take (l.length*2)=cur.toList.take (l.length*2):=by rw [List.take_take,Nat.min_eq_left (by omega)]
  rw [←this,hct,List.flatMap_append,List.take_left' (hfl l)]
theorem Sc (F:Nat) (p0 res:List volume_entry) (h:Ht F p0=some res) {w0 w:World} {H:List Res} {i j cap:Nat} {ad:Option Addr} {css:List (List Value)} (hq:All2 (Rp86 μ) css p0) (hlow:Ak w0 μ) (hS:St w0 H w)
  (hi:H[i]? = some (arr 86 2 (fN 2) ad p0.length cap css)) (hj:H[j]? = some (Eo w0.heap.size μ)) (hij:i≠j) :
  Calls Tryz.prog 25 #[.slice ad p0.length cap,.func (.func 26) #[] #[]] w λe w'=>e=.returned (.slice ad res.length cap)/\∃css',All2 (Rp86 μ) css' res/\St w0 (H.set i (arr 86 2 (fN 2) ad res.length cap css')) w':=by
 unfold Ht at h
 split at h
 ·rename_i hb
  cases h
  obtain ⟨L,e1,e2⟩:=enL hq hb.1;have hlen:L.length=p0.length:=by rw [←e2];simp
  have hk:=A2p L L.length (Nat.le_refl _);rw [e2,List.take_of_length_le (by omega)] at hk;rw [←hk];rw [←e1,←A65] at hi;have hh:=hS.holds _ (List.mem_of_getElem? hi)
  cases ad with
  | none =>
   have h0:L=[]:=by
    obtain ⟨_,_,hx⟩:=hh;rcases hx with ⟨_,hx⟩|⟨g,c,cur,hv,_⟩
    ·exact List.length_eq_zero_iff.1 (by omega)
    ·cases hv
   subst h0;have hp0:p0=[]:=by rw [←e2];rfl
   subst hp0;refine (Y4 cap w).mono ?_;rintro e w' ⟨rfl,rfl⟩;refine ⟨rfl,[],.nil,?_⟩;have:(arr 86 2 (fN 2) none ([]:List volume_entry).length cap ([]:List (List Value)))=arr 86 2 Gm none ([]:List volume_entry).length cap ([]:List (EnA μ)):=(A65 ([]:List (EnA μ)) _ _ _).symm;show St w0 (H.set i (arr 86 2 (fN 2) none ([]:List volume_entry).length cap ([]:List (List Value)))) _;rw [this,A3e hi];exact hS
  | some a =>
   obtain ⟨_,_,hx⟩:=id hh;rcases hx with ⟨hx,_⟩|⟨g,c,cur,hv,_,_,hnc,_⟩
   ·cases hx
   ·cases hv
    have hK:=Wi Li (by decide) hh;have e3:L.toArray.size=p0.length:=by simp [hlen]
    have hc:=A6c g 0 cap L.toArray w hK.1 hK.2 (by rw [e3];exact hb.2) (by rw [e3];exact hnc) (by
     have:=A2o hlow hS hi hj hij;intro m os dk hdk;exact this m os dk (by rw [←e3];exact hdk))
    rw [e3] at hc;refine hc.mono ?_;rintro e w' ⟨rfl,dk,⟨m,os,rfl⟩,hdk⟩;rw [hlen];have hKn:(keptUpTo (kpE L.toArray) L.toArray p0.length).length<=p0.length:=by
     unfold keptUpTo;rw [List.length_map];exact Nat.le_trans (List.length_filter_le _ _) (by simp)
    generalize keptUpTo (kpE L.toArray) L.toArray p0.length=K at *;have hds:dk.size=p0.length:=by
     rw [←Array.length_toList,hdk];simp;omega
    refine ⟨by rw [List.length_map],K.map (·.val.1),B37 _,?_⟩;have hs:=Tx Li (by decide) hS hi dk hds m os;rw [hdk] at hs;have hi2:(H.set i (arr 86 2 Gm (some ⟨g,0,none⟩) p0.length cap (K++List.replicate (p0.length-K.length) default)))[i]? = some (arr 86 2 Gm (some ⟨g,0,none⟩) p0.length cap (K++List.replicate (p0.length-K.length) default)):=by
     rw [List.getElem?_set_self (List.getElem?_eq_some_iff.1 hi).1]
    have:=hs.upd hi2 rfl rfl rfl (Nat.le_refl _) (λ_ _ _=>rfl) (B4m (hs.holds _ (List.mem_of_getElem? hi2))) (λk hk=>.inl hk);rw [List.set_set,A65] at this;rw [List.length_map];exact this
 ·cases h
end Go.Proofs.YtjfhcbjhjeklbaaGreat
