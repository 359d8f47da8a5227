import Derived.Test.YtjfhcbjhjeklbaaGreatT3WkE
set_option linter.unusedVariables false
set_option linter.unusedSimpArgs false
set_option linter.unusedSectionVars false
namespace Go.Proofs.YtjfhcbjhjeklbaaGreat
open Go Go.RowKit Go.Eng
set_option linter.unusedVariables false
set_option maxRecDepth 10000
set_option maxHeartbeats 4000000
theorem ckN (i:Nat) (h:i<=1000000):ck ((i:Int)+1)=some ((i+1:Nat):Int):=if_pos ⟨by omega,by omega⟩
theorem A4v (w0:World) (b:Nat) (ad:Option Addr) (cap:Nat) (l:List mosaic_Key) (hl:l.length<=1000000) (T:List Res) :
  B0g 138 #[pb b] w0 (C9 []::blk b 164 #[sv ad l cap]::arr 63 3 mosaic_Key.cells ad l.length cap l::T) l.length (λxs=>xs=l):=by
 intro γ l_ I g0 w1 hy hS;have sw:∀{xs g w},St w0 (I xs g++(C9 []::blk b 164 #[sv ad l cap]::arr 63 3 mosaic_Key.cells ad l.length cap l::T)) w↔St w0 ((C9 []::blk b 164 #[sv ad l cap]::arr 63 3 mosaic_Key.cells ad l.length cap l::T)++I xs g) w:=⟨λh=>h.perm List.perm_append_comm,λh=>h.perm List.perm_append_comm⟩;replace hS:=sw.1 hS;refine feW Tryz.func138 16 [(0,.func (.yield l_) #[] #[]),(1,pb b)] hS λa w hF hS=>?_;refine esr<|qo 3 3 [(5,sv ad l cap),(6,iv (ln l)),(7,iv 0)] hF (oL 164 1 0 hS.i rfl rfl<|A6) λa hF=>wfn rfl ?_;refine wpIn_block<|Cu (λn_ a w=>∃(i:Nat) (g:γ),n_=l.length-i/\i<=l.length/\Fr 16 [] [(0,.func (.yield l_) #[] #[]),(5,sv ad l cap),(6,iv (ln l)),(7,iv i)] a/\St w0 ((C9 []::blk b 164 #[sv ad l cap]::arr 63 3 mosaic_Key.cells ad l.length cap l::T)++I (l.take i) g) w) l.length ⟨0,g0,rfl,Nat.zero_le _,hF.sub (by kernel_rfl),by simpa using hS⟩ ?_;rintro n_ a w ⟨i,g,rfl,hi,hF,hS⟩;refine qnB [(8,.bool (decide ((i:Int)<(ln l))))] hF λa hF=>?_;refine Ad<|Ns hF rfl (λhc=>?_) λhc=>?_
 ·have hlt:i<l.length:=by
   have:=of_decide_eq_true hc;simp only [ln] at this;omega
  obtain ⟨u,hu⟩:∃u,l[i]? = some u:=⟨l[i],List.getElem?_eq_getElem hlt⟩;have hg:Cj l (i:Int)=some u:=by unfold Cj;rw [if_pos (by omega)];simpa using hu
  refine wK<|Ad<|wpIn_block<|esr ?_;refine qo 2 2 [(10,.agg (mosaic_Key.cells u).toArray)] hF (oI 164 (hS.arr (i:=2) rfl) hg<|oG 63 0 3 mosaic_Key.cells_len (λw' hd=>(hS.at_ hd).arr (i:=2) rfl) hg<|A6) λa hF=>?_;refine SK.wi (qA 63 #[.string ⟨#[]⟩,iv 0,iv 0] (λb4=>[(4,pb b4)]) hF hS λb4 w a hF hS=>?_);refine SK.wi (qw 63 0 (mosaic_Key.cells u).toArray hF hS rfl λw a hF hS=>wfn rfl ?_);refine esr<|qo 2 2 [(11,.func (.yield l_) #[] #[]),(12,.agg (mosaic_Key.cells u).toArray)] hF (oN 63 0 0 3 hS.i rfl<|A6) λa hF=>?_;have hS':St w0 (I (l.take i) g++(C9 []::blk b 164 #[sv ad l cap]::arr 63 3 mosaic_Key.cells ad l.length cap l::T)) w:=sw.2 (St.pickT (A:=[blk b4 63 (mosaic_Key.cells u).toArray]) (T:=(C9 []::blk b 164 #[sv ad l cap]::arr 63 3 mosaic_Key.cells ad l.length cap l::T)++I (l.take i) g) [] (by decide) hS);refine A1r 3 (λc=>[(0,.func (.yield l_) #[] #[]),(5,sv ad l cap),(6,iv (ln l)),(7,iv i),(13,.bool c)]) hF (by kernel_rfl) ⟨by kernel_rfl⟩ (hy (l.take i) u g w _ (by simp;omega) hS') (λ_=>⟨by kernel_rfl⟩) rfl ?_;rintro c w a ⟨rfl,g2,hS⟩ hF;refine rn 1 4 [(0,.func (.yield l_) #[] #[]),(5,sv ad l cap),(6,iv (ln l)),(7,iv i),(14,.bool false)] hF λa hF=>wfn rfl ?_;refine Ns hF rfl (λhc=>by cases hc) λ_=>?_
  refine wpIn_skip (Ac<|A7 ?_);obtain ⟨j,hj,hck⟩:∃j:Int,j=((i+1:Nat):Int)/\ck ((i:Int)+1)=some j:=⟨_,rfl,ckN i (by omega)⟩;refine WI.region<|ro 2 2 [(0,.func (.yield l_) #[] #[]),(5,sv ad l cap),(6,iv (ln l)),(7,iv j)] hF (oA 3 hck<|A6) λa hF=>wfn rfl ?_;rw [hj] at hF;refine ⟨l.length-(i+1),by omega,i+1,g2,rfl,by omega,hF,?_⟩;have e:l.take i++[u]=l.take (i+1):=by rw [List.take_add_one,hu];rfl
  rw [←e];exact sw.1 hS
 ·have:i=l.length:=by
   have:=of_decide_eq_false hc;simp only [ln] at this;omega
  subst this;refine wpIn_exit (Aa<|Aa<|Ap ?_);refine Lv hF rfl ⟨l,g,rfl,Nat.le_refl _,⟨_,rfl⟩,?_⟩;rw [List.take_length] at hS;exact sw.2 hS
theorem B2a {n k:Nat} {vis:List Nat} (hd:vis.Nodup) (hv:∀x∈vis,x<k) (hn:n<k) (hx:n∉vis):(vis++[n]).Nodup/\(∀x∈vis++[n],x<k)/\vis.length<k:=by
 have h1:(vis++[n]).Nodup:=by
  rw [List.nodup_append];refine ⟨hd,by simp,?_⟩;intro a ha b hb;simp at hb;subst hb;exact λe=>hx (e▸ha)
 have h2:∀x∈vis++[n],x<k:=λx h=>by
  rcases List.mem_append.1 h with h|h
  ·exact hv x h
  ·simp at h;omega
 refine ⟨h1,h2,?_⟩;have:=h1.length_le_of_subset (l₂:=List.range k) (λx h=>List.mem_range.2 (h2 x h));simp at this;omega
theorem B29 {k:Nat} {vis:List Nat} (hd:vis.Nodup) (hv:∀x∈vis,x<k) (ha:∀x,x<k->x∈vis):vis.Perm (List.range k) :=
 (List.perm_ext_iff_of_nodup hd List.nodup_range).2 λa=>⟨λh=>List.mem_range.2 (hv a h),λh=>ha a (List.mem_range.1 h)⟩
theorem A4i (l:List mosaic_Key):(List.range l.length).map (λn=>l.getD n default)=l:=by
 apply List.ext_getElem?;intro i;rw [List.getElem?_map]
 by_cases h:i<l.length
 ·rw [List.getElem?_range h,List.getElem?_eq_getElem h];simp [h]
 ·rw [List.getElem?_eq_none (by simp;omega),List.getElem?_eq_none (by omega)];rfl
abbrev kfK:mosaic_Key->Value:=fA mosaic_Key.cells
theorem A8s (w0:World) (b m:Nat) (B:List (mosaic_Key×Value)) (T:List Res) :
  B0g 127 #[pb b] w0 (C9 []::blk b 98 #[.map (some m)]::A0 kfK (λv=>v) m B::T) B.length (λxs=>xs.Perm (B.map (·.1))):=by
 intro γ l_ I g0 w1 hy hS;have sw:∀{xs g w},St w0 (I xs g++(C9 []::blk b 98 #[.map (some m)]::A0 kfK (λv=>v) m B::T)) w↔St w0 ((C9 []::blk b 98 #[.map (some m)]::A0 kfK (λv=>v) m B::T)++I xs g) w:=⟨λh=>h.perm List.perm_append_comm,λh=>h.perm List.perm_append_comm⟩;replace hS:=sw.1 hS;refine feW Tryz.func127 14 [(0,.func (.yield l_) #[] #[]),(1,pb b)] hS λa w hF hS=>?_;refine esr<|qo 1 1 [(4,.map (some m))] hF (oL 98 1 0 hS.i rfl rfl<|A6) λa hF=>?_;obtain ⟨bs,c,hlen,hlt,hnd,hS⟩:=hS.mapOpen (i:=2) rfl;refine SK.wi (A9k (M':=λq=>[(0,.func (.yield l_) #[] #[]),(5,pb q)]) (t:=98) (e:=160) (kt:=63) 2 hF hS rfl (by kernel_rfl) ⟨by kernel_rfl⟩ (by kernel_rfl) (λ_=>⟨by kernel_rfl⟩) λq w a hF hS=>wfn rfl ?_);refine wpIn_block<|Cu (λn_ a w=>∃(vis:List Nat) (g:γ),n_=B.length-vis.length/\vis.Nodup/\(∀x∈vis,x<B.length)/\Fr 14 [] [(0,.func (.yield l_) #[] #[]),(5,pb q)] a/\St w0 ((itR q m c (vis.map λn=>bs.getD n 0) c::C9 []::blk b 98 #[.map (some m)]::Uu kfK (λv=>v) m B bs c::T)++I (vis.map λn=>(B.map (·.1)).getD n default) g) w) B.length ⟨[],g0,rfl,.nil,by simp,hF.sub (by kernel_rfl),hS⟩ ?_;rintro n_ a w ⟨vis,g,rfl,hvd,hvl,hF,hS⟩;refine esr<|SK.wi (B2p (ty:=0) (M0:=[(0,.func (.yield l_) #[] #[]),(5,pb q),(6,.tuple #[.bool false])]) (M1:=λx y=>[(0,.func (.yield l_) #[] #[]),(5,pb q),(6,.tuple #[.bool true,kfK x,y])]) 0 3 hF hS rfl rfl (by kernel_rfl) ⟨by kernel_rfl⟩ hlt (Nat.le_refl _) ⟨by kernel_rfl⟩ (λ_ _=>⟨by kernel_rfl⟩) ?_ ?_)
 ·intro hall a hF;refine rn 1 2 [(7,.bool false)] hF λa hF=>wfn rfl ?_;refine Ad<|Ns hF rfl (λhc=>by cases hc) λ_=>?_
  refine wpIn_exit (Aa<|Aa<|Ap ?_);have hp:vis.Perm (List.range B.length):=by
   refine B29 hvd hvl λx hx=>?_;have hb:bs[x]? = some (bs.getD x 0):=by rw [List.getD_eq_getElem?_getD,List.getElem?_eq_getElem (by omega)];simp
   obtain ⟨y,hy1,hy2⟩:=List.mem_map.1 (hall _ (List.mem_of_getElem? hb));have hby:bs[y]? = some (bs.getD y 0):=by have:=hvl y hy1;rw [List.getD_eq_getElem?_getD,List.getElem?_eq_getElem (by omega)];simp
   rw [hy2] at hby;have hx2:x<bs.length:=by omega
   have:x=y:=(List.getElem?_inj hx2 hnd).1 (hb.trans hby.symm);exact this▸hy1
  have hp2:(vis.map λn=>(B.map (·.1)).getD n default).Perm (B.map (·.1)):=by
   have:=hp.map (λn=>(B.map (·.1)).getD n default);have e:(List.range B.length).map (λn=>(B.map (·.1)).getD n default)=B.map (·.1):=by
    have:=A4i (B.map (·.1))
    rwa [List.length_map] at this
   rwa [e] at this
  have hS2:St w0 (C9 []::blk b 98 #[.map (some m)]::Uu kfK (λv=>v) m B bs c::(T++I (vis.map λn=>(B.map (·.1)).getD n default) g)) w:=St.pickT (A:=[itR q m c (vis.map λn=>bs.getD n 0) c]) (T:=C9 []::blk b 98 #[.map (some m)]::Uu kfK (λv=>v) m B bs c::(T++I (vis.map λn=>(B.map (·.1)).getD n default) g)) [] (by decide) hS;have hS3:=hS2.mapShut (i:=2) rfl;refine Lv hF rfl ⟨_,g,hp2,?_,⟨_,rfl⟩,sw.2 hS3⟩;rw [hp2.length_eq,List.length_map];exact Nat.le_refl _
 ·intro n p d hB hb hns w a hF hS;have hnB:n<B.length:=(List.getElem?_eq_some_iff.1 hB).1;have hnv:n∉vis:=λh=>hns (List.mem_map.2 ⟨n,h,by rw [List.getD_eq_getElem?_getD,hb];rfl⟩);obtain ⟨h1,h2,h3⟩:=B2a hvd hvl hnB hnv;refine rn 1 2 [(0,.func (.yield l_) #[] #[]),(5,pb q),(7,.bool true)] hF λa hF=>wfn rfl ?_;refine Ad<|Ns hF rfl (λ_=>?_) λhc=>by cases hc
  refine wK<|wpIn_block<|esr ?_;refine SK.wi (A8c (M':=[(8,.tuple #[kfK p.1,p.2]),(0,.func (.yield l_) #[] #[]),(5,pb q)]) 0 3 hF hS rfl rfl (by kernel_rfl) ⟨by kernel_rfl⟩ hB hb ⟨by kernel_rfl⟩ λa hF=>?_);refine qn 1 2 [(9,.agg (mosaic_Key.cells p.1).toArray)] hF λa hF=>?_;refine SK.wi (qA 63 #[.string ⟨#[]⟩,iv 0,iv 0] (λb4=>[(3,pb b4)]) hF hS λb4 w a hF hS=>?_);refine SK.wi (qw 63 0 (mosaic_Key.cells p.1).toArray hF hS rfl λw a hF hS=>wfn rfl ?_);refine esr<|qo 2 2 [(10,.func (.yield l_) #[] #[]),(11,.agg (mosaic_Key.cells p.1).toArray)] hF (oN 63 0 0 3 hS.i rfl<|A6) λa hF=>?_;obtain ⟨G,hG⟩:∃G,G=itR q m c ((vis.map λn=>bs.getD n 0)++[d]) c::C9 []::blk b 98 #[.map (some m)]::Uu kfK (λv=>v) m B bs c::T:=⟨_,rfl⟩;have hS':St w0 (I (vis.map λn=>(B.map (·.1)).getD n default) g++G) w:=by
   rw [hG];have h0:St w0 ((itR q m c ((vis.map λn=>bs.getD n 0)++[d]) c::C9 []::blk b 98 #[.map (some m)]::Uu kfK (λv=>v) m B bs c::T)++I (vis.map λn=>(B.map (·.1)).getD n default) g) w:=St.pickT (A:=[blk b4 63 (mosaic_Key.cells p.1).toArray]) (T:=(itR q m c ((vis.map λn=>bs.getD n 0)++[d]) c::C9 []::blk b 98 #[.map (some m)]::Uu kfK (λv=>v) m B bs c::T)++I (vis.map λn=>(B.map (·.1)).getD n default) g) [] (by decide) hS;exact h0.perm List.perm_append_comm
  refine A1r 3 (λc=>[(0,.func (.yield l_) #[] #[]),(5,pb q),(12,.bool c)]) hF (by kernel_rfl) ⟨by kernel_rfl⟩ (hy (vis.map λn=>(B.map (·.1)).getD n default) p.1 g w G (by rw [List.length_map];exact h3) hS') (λ_=>⟨by kernel_rfl⟩) rfl ?_;rintro c2 w a ⟨rfl,g2,hS⟩ hF;refine rn 1 4 [(0,.func (.yield l_) #[] #[]),(5,pb q),(13,.bool false)] hF λa hF=>wfn rfl ?_;refine Ns hF rfl (λhc=>by cases hc) λ_=>?_
  refine wpIn_skip (Ac<|A7 ?_);refine ⟨B.length-(vis++[n]).length,by simp;omega,vis++[n],g2,rfl,h1,h2,hF.sub (by kernel_rfl),?_⟩;have e1:(vis++[n]).map (λn=>(B.map (·.1)).getD n default)=(vis.map λn=>(B.map (·.1)).getD n default)++[p.1]:=by
   rw [List.map_append,List.map_singleton,List.getD_eq_getElem?_getD,List.getElem?_map,hB];rfl
  have e2:(vis++[n]).map (λn=>bs.getD n 0)=(vis.map λn=>bs.getD n 0)++[d]:=by
   rw [List.map_append,List.map_singleton,List.getD_eq_getElem?_getD,hb];rfl
  rw [e1,e2,←hG];exact hS.perm List.perm_append_comm
end Go.Proofs.YtjfhcbjhjeklbaaGreat
