import Derived.Test.YtifbomimeodibaaGreatV7WkN2
namespace Go.Proofs.YtifbomimeodibaaGreat
open Go Go.RowKit Go.Eng Go.Sort Go.Shelf Go.Lib
set_option linter.unusedVariables false
set_option maxHeartbeats 4000000
set_option maxRecDepth 100000
variable {μ:Frz}
theorem enL:∀{css:List (List Value)} {p0:List volume_entry},All2 (Rp109 μ) css p0→(∀s∈p0,enB s)→∃L:List (EnA μ),L.map (·.val.1)=css∧L.map (·.val.2)=p0
 | _,_,.nil,_=>⟨[],rfl,rfl⟩
 | c::css,s::p0,.cons h t,hb=>by
  obtain ⟨L,h1,h2⟩:=enL t (fun x hx=>hb x (List.mem_cons_of_mem _ hx));exact ⟨⟨(c,s),h,hb s List.mem_cons_self⟩::L,by rw [List.map_cons,h1],by rw [List.map_cons,h2]⟩
theorem A99:∀L:List (EnA μ),All2 (Rp109 μ) (L.map (·.val.1)) (L.map (·.val.2))
 | []=>.nil
 | x::L=>.cons x.property.1 (A99 L)
theorem A3p (L:List (EnA μ)) (a:Option Addr) (m c:Nat):arr 109 2 Hj a m c L=arr 109 2 (fN 2) a m c (L.map (·.val.1)):=by
 unfold arr
 congr 1
 ·funext w
  simp only [List.length_map,List.flatMap_map];rfl
theorem A17 {w0 w:World} {H:List Res} {i j n cap b:Nat} {L:List (EnA μ)} (hlow:At w0 μ) (hS:St w0 H w) (hi:H[i]? = some (arr 109 2 Hj (some ⟨b,0,none⟩) n cap L)) (hj:H[j]? = some (Mh w0.heap.size μ)) (hij:i≠j) :
  ∀m os (dk:Array (EnA μ)),dk.size=n→FrzAt μ (sortWorldK Hj 2 w b 0 m dk os):=fun m os dk hdk =>
 (Wu Lt (by decide) hS hi dk hdk m os).frz (i:=j) (by rw [List.getElem?_set_ne hij];exact hj) hlow
theorem A1v {H:List Res} {i:Nat} {R:Res} (h:H[i]? = some R):H.set i R=H:=by
 apply List.ext_getElem?;intro j;rw [List.getElem?_set]
 split
 ·rename_i hij;subst hij;split
  ·exact h.symm
  ·rename_i hlt;rw [List.getElem?_eq_none (by omega)]
 ·rfl
theorem Tm (F:Nat) (p0 res:List volume_entry) (h:Kr F p0=some res) {w0 w:World} {H:List Res} {i j cap:Nat} {ad:Option Addr} {css:List (List Value)} (hq:All2 (Rp109 μ) css p0) (hlow:At w0 μ) (hS:St w0 H w)
  (hi:H[i]? = some (arr 109 2 (fN 2) ad p0.length cap css)) (hj:H[j]? = some (Mh w0.heap.size μ)) (hij:i≠j) :
  Calls Tryz.prog 54 #[.slice ad p0.length cap,.func (.func 55) #[] #[]] w fun e w'=>e=.returned (.tuple #[])∧∃css',p0.length=res.length∧All2 (Rp109 μ) css' res∧St w0 (H.set i (arr 109 2 (fN 2) ad res.length cap css')) w':=by
 unfold Kr at h
 split at h
 ·rename_i hb
  cases h
  obtain ⟨L,e1,e2⟩:=enL hq hb.1;have hlen:L.length=p0.length:=by rw [←e2];simp
  obtain ⟨s1,s2,s3⟩:=A1y enC A35 L;have hres:(Us enC L).map (·.val.2)=p0.mergeSort fun x y=>decide (E2 x y≤0):=by
   refine A3z ?_ ?_
   ·rw [←e2];exact s2.map _
   ·rw [List.pairwise_map];exact s3
  rw [←hres];have hl2:p0.length=((Us enC L).map (·.val.2)).length:=by simp [s1,hlen]
  rw [←e1,←A3p] at hi;have hh:=hS.holds _ (List.mem_of_getElem? hi)
  cases ad with
  | none =>
   have h0:L=[]:=by
    obtain ⟨_,_,hx⟩:=hh;rcases hx with ⟨_,hx⟩|⟨g,c,cur,hv,_⟩
    ·exact List.length_eq_zero_iff.1 (by omega)
    ·cases hv
   subst h0;have hp0:p0=[]:=by rw [←e2];rfl
   subst hp0;refine (A1x cap w).mono ?_;rintro e w' ⟨rfl,rfl⟩;have e0:Us enC ([]:List (EnA μ))=[]:=List.length_eq_zero_iff.1 s1;rw [e0];refine ⟨rfl,[],rfl,.nil,?_⟩;have:(arr 109 2 (fN 2) none ([]:List volume_entry).length cap ([]:List (List Value)))=arr 109 2 Hj none ([]:List volume_entry).length cap ([]:List (EnA μ)):=(A3p ([]:List (EnA μ)) _ _ _).symm;show St w0 (H.set i (arr 109 2 (fN 2) none ([]:List volume_entry).length cap ([]:List (List Value)))) _;rw [this,A1v hi];exact hS
  | some a =>
   obtain ⟨_,_,hx⟩:=id hh;rcases hx with ⟨hx,_⟩|⟨g,c,cur,hv,_⟩
   ·cases hx
   ·cases hv
    have hK:=Zu Lt (by decide) hh;have hc:=B06 g cap L.toArray w hK.1 hK.2 (by simp [hlen];exact hb.2) (by
     have:=A17 hlow hS hi hj hij;intro m os dk hdk;exact this m os dk (by simpa [hlen] using hdk))
    have e3:L.toArray.size=p0.length:=by simp [hlen]
    rw [e3] at hc;refine hc.mono ?_;rintro e w' ⟨rfl,m,os,rfl⟩;have hd:(pdq (ltOf enC) L.toArray 0 p0.length (Lib.bitLen p0.length) true true).toList=Us enC L:=by unfold Us;rw [hlen]
    have hds:(pdq (ltOf enC) L.toArray 0 p0.length (Lib.bitLen p0.length) true true).size=p0.length:=by
     rw [←Array.length_toList,hd,s1,hlen]
    refine ⟨rfl,(Us enC L).map (·.val.1),hl2,A99 _,?_⟩;have:=Wu Lt (by decide) hS hi _ hds m os;rw [hd,A3p] at this;rw [←hl2];exact this
 ·cases h
theorem Zm:∀(l:List volume_entry) (p x:volume_entry),Uz p (l++[x])=Uz p l++(if x.block=(l.getLastD p).block then [] else [x])
 | [],p,x=>by simp [Uz]
 | y::l,p,x=>by
  show Uz p (y::(l++[x]))=_;unfold Uz;rw [Zm l y x,List.getLastD_cons]
  by_cases h:y.block=p.block
  ·rw [if_pos h,if_pos h]
  ·rw [if_neg h,if_neg h];rfl
theorem A8u:∀(l:List volume_entry) (p:volume_entry),(p::l)[l.length]? = some (l.getLastD p)
 | [],p=>rfl
 | y::l,p=>by rw [List.length_cons,List.getElem?_cons_succ,A8u l y,List.getLastD_cons]
theorem A3w {l:List volume_entry} {x y:volume_entry} {m:Nat} (hl:l.length=m+1) (hy:l[m]? = some y):A3v (l++[x])=A3v l++(if x.block=y.block then [] else [x]):=by
 cases l with
 | nil=>simp at hl
 | cons p l =>
  have:l.length=m:=by simpa using hl
  subst this;rw [A8u] at hy
  cases hy
  show p::Uz p (l++[x])=p::(Uz p l)++_;rw [Zm];rfl
theorem A37 (x y:EnA μ):eqE x y=true↔x.val.2.block=y.val.2.block:=by
 have key:∀l:List Int,(∀z∈l,0≤z∧z<256)→sby (bst l)=l:=by
  intro l h;unfold sby bst;simp only [List.map_map]
  conv=>rhs;rw [←List.map_id l]
  apply List.map_congr_left;intro z hz;have:=h z hz;simp only [Function.comp,id];rw [UInt8.toNat_ofNat_of_lt' (show z.toNat<256 by omega)];omega
 unfold eqE;rw [W0];exact ⟨fun h=>by rw [←key _ x.property.2.2,←key _ y.property.2.2,h],fun h=>by rw [h]⟩
theorem A18 (L:List (EnA μ)):∀m,m≤L.length→(keptUpTo (kpE L.toArray) L.toArray m).map (·.val.2)=A3v ((L.map (·.val.2)).take m)
 | 0,_=>rfl
 | m+1,h=>by
  have ih:=A18 L m (by omega);have hg:∀i (hi:i<L.length),L.toArray[i]! = L[i]:=fun i hi=>by rw [getElem!_pos L.toArray i (by simpa using hi)];simp
  rw [keptUpTo_succ,List.map_append,ih,List.take_add_one];have hx:(L.map (·.val.2))[m]? = some L[m].val.2:=by rw [List.getElem?_map,List.getElem?_eq_getElem (by omega)];rfl
  rw [hx];show _=A3v (_++[L[m].val.2])
  cases m with
  | zero=>rw [hg 0 (by omega)];rfl
  | succ q =>
   have hy:((L.map (·.val.2)).take (q+1))[q]? = some L[q].val.2:=by rw [List.getElem?_take_of_lt (by omega),List.getElem?_map,List.getElem?_eq_getElem (by omega)];rfl
   rw [A3w (by simp;omega) hy]
   congr 1
   unfold kpE;rw [show q+1-1=q from rfl,hg (q+1) (by omega),hg q (by omega)]
   by_cases hE:L[q+1].val.2.block=L[q].val.2.block
   ·rw [if_pos hE,(A37 _ _).2 hE];rfl
   ·rw [if_neg hE];have:eqE L[q+1] L[q]=false:=by
     cases hv:eqE L[q+1] L[q]
     ·rfl
     ·exact absurd ((A37 _ _).1 hv) hE
    rw [this];simp
theorem Xy (cap:Nat) (w:World):Calls Tryz.prog 57 #[.slice none 0 cap,.func (.func 58) #[] #[]] w fun e w'=>e=.returned (.slice none 0 cap)∧w'=w:=by
 go_enter Tryz.func57,Tryz.ntmps57
 go_wp2
 go_ret
 exact ⟨rfl,rfl⟩
theorem B04 {w:World} {b n cap:Nat} {l r:List (EnA μ)} (h:(arr 109 2 Hj (some ⟨b,0,none⟩) n cap (l++r)).holds w):(arr 109 2 Hj (some ⟨b,0,none⟩) l.length cap l).holds w:=by
 obtain ⟨hn,hx,h⟩:=h;have hfl:∀l:List (EnA μ),(l.flatMap Hj).length=l.length*2:=fun l=>Mj Lt l;rcases h with ⟨h,_⟩|⟨g,cap',cur,hv,hb0,hg,hnc,hcm,hcs,hct⟩
 ·cases h
 ·cases hv
  simp only [List.length_append] at hn;refine ⟨rfl,hfl l,.inr ⟨b,cap,cur,rfl,hb0,hg,by omega,hcm,hcs,?_⟩⟩;have:(cur.toList.take (n*2)).take (l.length*2)=cur.toList.take (l.length*2):=by rw [List.take_take,Nat.min_eq_left (by omega)]
  rw [←this,hct,List.flatMap_append,List.take_left' (hfl l)]
theorem Ro (F:Nat) (p0 res:List volume_entry) (h:J0 F p0=some res) {w0 w:World} {H:List Res} {i j cap:Nat} {ad:Option Addr} {css:List (List Value)} (hq:All2 (Rp109 μ) css p0) (hlow:At w0 μ) (hS:St w0 H w)
  (hi:H[i]? = some (arr 109 2 (fN 2) ad p0.length cap css)) (hj:H[j]? = some (Mh w0.heap.size μ)) (hij:i≠j) :
  Calls Tryz.prog 57 #[.slice ad p0.length cap,.func (.func 58) #[] #[]] w fun e w'=>e=.returned (.slice ad res.length cap)∧∃css',All2 (Rp109 μ) css' res∧St w0 (H.set i (arr 109 2 (fN 2) ad res.length cap css')) w':=by
 unfold J0 at h
 split at h
 ·rename_i hb
  cases h
  obtain ⟨L,e1,e2⟩:=enL hq hb.1;have hlen:L.length=p0.length:=by rw [←e2];simp
  have hk:=A18 L L.length (Nat.le_refl _);rw [e2,List.take_of_length_le (by omega)] at hk;rw [←hk];rw [←e1,←A3p] at hi;have hh:=hS.holds _ (List.mem_of_getElem? hi)
  cases ad with
  | none =>
   have h0:L=[]:=by
    obtain ⟨_,_,hx⟩:=hh;rcases hx with ⟨_,hx⟩|⟨g,c,cur,hv,_⟩
    ·exact List.length_eq_zero_iff.1 (by omega)
    ·cases hv
   subst h0;have hp0:p0=[]:=by rw [←e2];rfl
   subst hp0;refine (Xy cap w).mono ?_;rintro e w' ⟨rfl,rfl⟩;refine ⟨rfl,[],.nil,?_⟩;have:(arr 109 2 (fN 2) none ([]:List volume_entry).length cap ([]:List (List Value)))=arr 109 2 Hj none ([]:List volume_entry).length cap ([]:List (EnA μ)):=(A3p ([]:List (EnA μ)) _ _ _).symm;show St w0 (H.set i (arr 109 2 (fN 2) none ([]:List volume_entry).length cap ([]:List (List Value)))) _;rw [this,A1v hi];exact hS
  | some a =>
   obtain ⟨_,_,hx⟩:=id hh;rcases hx with ⟨hx,_⟩|⟨g,c,cur,hv,_,_,hnc,_⟩
   ·cases hx
   ·cases hv
    have hK:=Zu Lt (by decide) hh;have e3:L.toArray.size=p0.length:=by simp [hlen]
    have hc:=A3u g 0 cap L.toArray w hK.1 hK.2 (by rw [e3];exact hb.2) (by rw [e3];exact hnc) (by
     have:=A17 hlow hS hi hj hij;intro m os dk hdk;exact this m os dk (by rw [←e3];exact hdk))
    rw [e3] at hc;refine hc.mono ?_;rintro e w' ⟨rfl,dk,⟨m,os,rfl⟩,hdk⟩;rw [hlen];have hKn:(keptUpTo (kpE L.toArray) L.toArray p0.length).length≤p0.length:=by
     unfold keptUpTo;rw [List.length_map];exact Nat.le_trans (List.length_filter_le _ _) (by simp)
    generalize keptUpTo (kpE L.toArray) L.toArray p0.length=K at *;have hds:dk.size=p0.length:=by
     rw [←Array.length_toList,hdk];simp;omega
    refine ⟨by rw [List.length_map],K.map (·.val.1),A99 _,?_⟩;have hs:=Wu Lt (by decide) hS hi dk hds m os;rw [hdk] at hs;have hi2:(H.set i (arr 109 2 Hj (some ⟨g,0,none⟩) p0.length cap (K++List.replicate (p0.length-K.length) default)))[i]? = some (arr 109 2 Hj (some ⟨g,0,none⟩) p0.length cap (K++List.replicate (p0.length-K.length) default)):=by
     rw [List.getElem?_set_self (List.getElem?_eq_some_iff.1 hi).1]
    have:=hs.upd hi2 rfl rfl rfl (Nat.le_refl _) (fun _ _ _=>rfl) (B04 (hs.holds _ (List.mem_of_getElem? hi2))) (fun k hk=>.inl hk);rw [List.set_set,A3p] at this;rw [List.length_map];exact this
 ·cases h
end Go.Proofs.YtifbomimeodibaaGreat
