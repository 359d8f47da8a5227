import Derived.Test.YtfkeddejdahnhaaGreatDoorQ3WkI
import Derived.WalkKit
import Derived.Shelf.Slices.In.SortNone
set_option linter.unusedVariables false
set_option linter.unusedSimpArgs false
set_option linter.unusedSectionVars false
namespace Go.Proofs.YtfkeddejdahnhaaGreatDoor
open Go Go.RowKit Go.Eng Go.Sort Go.Shelf Go.Lib
set_option maxRecDepth 100000
set_option maxHeartbeats 4000000
def B6o (gf:FuncId) (lb:Array Value) (w0:World) (H:List Res) (n:Nat) (Px:List Int->Prop):Prop :=
 ∀(γ:Type) (l_:Nat) (I:List Int->γ->List Res) (g0:γ) (w1:World),
  (∀pre x g w G,pre.length<n->St w0 (I pre g++G) w->Eng.Yields Tryz.prog l_ #[iv x] w (λc w2=>c=true/\∃g2,St w0 (I (pre++[x]) g2++G) w2)) ->
  St w0 (I [] g0++H) w1->Calls Tryz.prog gf (#[.func (.yield l_) #[] #[]]++lb) w1 (λe w=>∃xs g,Px xs/\xs.length<=n/\(∃v,e=.returned v)/\St w0 (I xs g++H) w)
theorem C0o (pre:List Int) (x:Int) (n:Nat) (hn:n<=1000000) (h:pre.length<n):apd 8 pre [x]=some (pre++[x]):=by
 unfold apd;rw [if_pos];simp;omega
theorem ckN (i:Nat) (h:i<=1000000):ck ((i:Int)+1)=some ((i+1:Nat):Int):=if_pos ⟨om,om⟩
theorem A3d (gf:FuncId) (lb:Array Value) (hent:∀args,pureSem Tryz.prog (callFunc gf args)=some (.enter gf args)) (n:Nat) (hn:n<=1000000) (w0 w1:World) (H:List Res) (Px:List Int->Prop) (hseq:B6o gf lb w0 (Bw []::H) n Px) (hS:St w0 H w1) :
  Calls Tryz.prog 165 #[.slice none 0 0,.func (.func gf) #[] lb] w1 (λe w=>∃xs ad cap,Px xs/\xs.length<=n/\e=.returned (sv ad xs cap)/\St w0 (arr 3 1 fI ad xs.length cap xs::H) w):=by
 refine Uu Tryz.func165 rfl 13 [(0,.slice none 0 0),(1,.func (.func gf) #[] lb)] rfl rfl (by kernel_rfl) λa w hw hF=>?_;replace hS:=hS.cast hw
 clear hw
 replace hS:=hS.noMarks;refine esr<|SK.wi (qB 54 (.slice none 0 0) #[.slice none 0 0] (λb=>[(2,pb b)]) hF hS λb w a hF hS=>?_);refine qn 1 2 [(4,.slice none 0 0)] hF λa hF=>wfn rfl ?_;refine Ak<|qnB [(6,.func (.func gf) #[] lb)] hF λa hF=>?_;replace hS:=hS.nilarr 3 1 fI;refine wpIn_block ?_;refine A40 (gf:=gf) (lb:=lb) (λl=>#[.func (.yield l) #[] #[]]++lb) (λH1=>∃(xs:List Int) (g:Option Addr×Nat),H1=blk b 54 #[sv g.1 xs g.2]::arr 3 1 fI g.1 xs.length g.2 xs::Bw []::H/\Px xs/\xs.length<=n) (λc H1=>False) (M:=[(2,pb b),(6,.func (.func gf) #[] lb)]) (hF.sub (by kernel_rfl)) rfl hS (λ_=>rfl) hent ?_ ?_ ?_
 ·replace hF:Fr 13 (K3 ([])) [(2,pb b),(6,.func (.func gf) #[] lb)] a:=hF.sub (by kernel_rfl);intro fn_ l2_ D2_ rec2 w hrec2 hS;have hS0:St w0 ((Ct l2_ (rec2 .ready none)::Ct D2_ (.deferred (some []))::blk b 54 #[sv none ([]:List Int) 0]::arr 3 1 fI none ([]:List Int).length 0 []::[])++(Bw []::H)) w :=
   St.pickT (A:=[Ct l2_ (rec2 .ready none),Ct D2_ (.deferred (some [])),arr 3 1 fI none 0 0 [],blk b 54 #[.slice none 0 0]]) (T:=Bw []::H) [0,1,3,2] dc hS
  refine Calls.mono (hseq (Option Addr×Nat) l2_ (λpre g=>[Ct l2_ (rec2 .ready none),Ct D2_ (.deferred (some [])),blk b 54 #[sv g.1 pre g.2],arr 3 1 fI g.1 pre.length g.2 pre]) (none,0) w ?_ hS0) ?_
  ·rintro pre x ⟨ad,cap⟩ w G hlt hS;refine A43 (rec:=rec2) hrec2 [(7,iv x)] [(2,pb b),(7,iv x)] hF sm rfl rfl (by kernel_rfl) hS ?_;intro a hF;refine WI.region<|qn 1 1 [(5,iv x)] hF λa hF=>wfn rfl ?_;refine ⟨_,hS,λw hS=>?_⟩;refine wpIn_block<|WI.region<|qo 2 2 [(8,sv ad pre cap),(9,iv x)] hF (oL 54 2 0 hS.i rfl rfl<|A4) λa hF=>?_;refine SK.wi (qL 3 54 1 [x] (λb10=>[(10,.slice (some ⟨b10,0,none⟩) 1 1)]) D8 hF hS λb10 w a hF hS=>?_);refine SK.wi (qP 54 54 4 (bytes:=8) (λad2 cap2=>[(11,.slice ad2 (pre++[x]).length cap2)]) hF hS (hS.arr (i:=0) rfl) (C0o pre x n hn hlt) rfl λad2 cap2 w a hF hS=>?_);refine SK.wi (qs 54 3 0 (sv ad2 (pre++[x]) cap2) hF hS rfl λw a hF hS=>?_);refine WI.fin rfl (A8 ?_);refine ⟨_,St.pickT (A:=[arr 3 1 fI (some ⟨b10,0,none⟩) 1 1 [x],Ct l2_ (rec2 .busy none),Ct D2_ (.deferred (some [])),blk b 54 #[sv ad2 (pre++[x]) cap2],arr 3 1 fI ad2 (pre++[x]).length cap2 (pre++[x])]) (T:=G) [1,2,3,4] dc hS,λw hS=>⟨rfl,(ad2,cap2),hS⟩⟩
  ·rintro e w2 ⟨xs,g,hp,hl,⟨v,rfl⟩,hSn⟩;exact ⟨v,rfl,.inl ⟨_,⟨xs,g,rfl,hp,hl⟩,hSn⟩⟩
 ·rintro D50 a w _ ⟨xs,g,rfl,hp,hl⟩ hF hS;replace hS:St w0 (Bw [D50]::blk b 54 #[sv g.1 xs g.2]::arr 3 1 fI g.1 xs.length g.2 xs::H) w :=
   St.mark (St.pickT (A:=[Ct D50 (.deferred (some [])),blk b 54 #[sv g.1 xs g.2],arr 3 1 fI g.1 xs.length g.2 xs,Bw []]) (T:=H) [0,3,1,2] dc hS)
  replace hF:Fr 13 (K3 (D50::[])) [(2,pb b)] a:=hF.sub (by kernel_rfl);refine A8<|A5<|?_;refine roB [(4,sv g.1 xs g.2)] hF (oL 54 1 0 hS.i rfl rfl<|A4) λa hF=>?_;refine wpIn_ret (Uv (H:=blk b 54 #[sv g.1 xs g.2]::arr 3 1 fI g.1 xs.length g.2 xs::H) [.tmp 4] [sv g.1 xs g.2] hF hS rfl λw hS=>⟨⟨rfl,trivial⟩,?_⟩);exact ⟨xs,g.1,g.2,hp,hl,rfl,St.pickT (A:=[blk b 54 #[sv g.1 xs g.2],arr 3 1 fI g.1 xs.length g.2 xs]) (T:=H) [1] dc hS⟩
 ·rintro D50 c a w H2 hf;exact hf.elim
theorem A5u {μ:Frz} (w0:World) (hlow:Ar w0 μ) (b:Nat) (ad:Option Addr) (cap:Nat) (l:List Int) (hl:l.length<=1000000) (hB:BlkM μ b 54 #[sv ad l cap]) (hA:ArrM μ 1 fI ad cap l) (T:List Res) :
  B6o 149 #[pb b] w0 (Bw []::Lt w0.heap.size μ::T) l.length (λxs=>xs=l):=by
 intro γ l_ I g0 w1 hy hS;have sw:∀{xs g w},St w0 (I xs g++(Bw []::Lt w0.heap.size μ::T)) w↔St w0 ((Bw []::Lt w0.heap.size μ::T)++I xs g) w:=⟨λh=>h.perm List.perm_append_comm,λh=>h.perm List.perm_append_comm⟩;replace hS:=sw.1 hS;refine feW Tryz.func149 16 [(0,.func (.yield l_) #[] #[]),(1,pb b)] hS λa w hF hS=>?_;refine esr<|qo 3 3 [(5,sv ad l cap),(6,iv (ln l)),(7,iv 0)] hF (oX (.run [] (Instr.loadAt 54 (pb b)) (sv ad l cap)) (ob1 (by kernel_rfl) (λ_ hd=>(hB.blk ((hS.at_ hd).frz (i:=1) rfl hlow)).cell1 (j:=0) rfl))<|A4) λa hF=>wfn rfl ?_;refine wpIn_block<|C2 (λn_ a w=>∃(i:Nat) (g:γ),n_=l.length-i/\i<=l.length/\Fr 16 [] [(0,.func (.yield l_) #[] #[]),(5,sv ad l cap),(6,iv (ln l)),(7,iv i)] a/\St w0 ((Bw []::Lt w0.heap.size μ::T)++I (l.take i) g) w) l.length ⟨0,g0,rfl,Nat.zero_le _,hF.sub (by kernel_rfl),by simpa using hS⟩ ?_;rintro n_ a w ⟨i,g,rfl,hi,hF,hS⟩;refine qnB [(8,.bool (decide ((i:Int)<(ln l))))] hF λa hF=>?_;refine Ak<|B0u hF rfl (λhc=>?_) λhc=>?_
 ·have hlt:i<l.length:=by
   have:=of_decide_eq_true hc;simp only [ln] at this;omega
  obtain ⟨u,hu⟩:∃u,l[i]? = some u:=⟨l[i],List.getElem?_eq_getElem hlt⟩;have hg:Av l (i:Int)=some u:=by unfold Av;rw [if_pos om];simpa using hu
  refine wK<|Ak<|wpIn_block<|esr ?_;refine ro 3 3 [(0,.func (.yield l_) #[] #[]),(4,iv u),(5,sv ad l cap),(6,iv (ln l)),(7,iv i)] hF (oI 54 (hA _ (hS.frz (i:=1) rfl hlow)) hg<|oE 3 0 D8 (λw' hd=>hA _ ((hS.at_ hd).frz (i:=1) rfl hlow)) hg rfl<|A4) λa hF=>wfn rfl ?_;refine esr<|qn 2 2 [(11,.func (.yield l_) #[] #[]),(12,iv u)] hF λa hF=>?_;have hS':St w0 (I (l.take i) g++(Bw []::Lt w0.heap.size μ::T)) w:=sw.2 hS;refine A28 3 (λc=>[(0,.func (.yield l_) #[] #[]),(5,sv ad l cap),(6,iv (ln l)),(7,iv i),(13,.bool c)]) hF (by kernel_rfl) ⟨by kernel_rfl⟩ (hy (l.take i) u g w _ (by simp;omega) hS') (λ_=>⟨by kernel_rfl⟩) rfl ?_;rintro c w a ⟨rfl,g2,hS⟩ hF;refine rn 1 4 [(0,.func (.yield l_) #[] #[]),(5,sv ad l cap),(6,iv (ln l)),(7,iv i),(14,.bool false)] hF λa hF=>wfn rfl ?_;refine B0u hF rfl (λhc=>by cases hc) λ_=>?_
  refine wpIn_skip (A8<|A5 ?_);obtain ⟨j,hj,hck⟩:∃j:Int,j=((i+1:Nat):Int)/\ck ((i:Int)+1)=some j:=⟨_,rfl,ckN i om⟩;refine WI.region<|ro 2 2 [(0,.func (.yield l_) #[] #[]),(5,sv ad l cap),(6,iv (ln l)),(7,iv j)] hF (oA 3 hck<|A4) λa hF=>wfn rfl ?_;rw [hj] at hF;refine ⟨l.length-(i+1),om,i+1,g2,rfl,om,hF,?_⟩;have e:l.take i++[u]=l.take (i+1):=by rw [List.take_add_one,hu];rfl
  rw [←e];exact sw.1 hS
 ·have:i=l.length:=by
   have:=of_decide_eq_false hc;simp only [ln] at this;omega
  subst this;refine wpIn_exit (Aa<|Aa<|As ?_);refine Ql hF rfl ⟨l,g,rfl,Nat.le_refl _,⟨_,rfl⟩,?_⟩;rw [List.take_length] at hS;exact sw.2 hS
theorem A63 (gf:FuncId) (lb:Array Value) (hent:∀args,pureSem Tryz.prog (callFunc gf args)=some (.enter gf args)) (n:Nat) (hn:n<=1000000) (w0 w1:World) (H:List Res) (Px:List Int->Prop) (hseq:B6o gf lb w0 (Bw []::H) n Px) (hS:St w0 H w1) :
  Up Tryz.prog 147 #[.func (.func gf) #[] lb] w1 (λv w=>∃xs ad cap,Px xs/\xs.length<=n/\v=sv ad xs cap/\St w0 (arr 3 1 fI ad xs.length cap xs::H) w):=by
 refine feW Tryz.func147 5 [(0,.func (.func gf) #[] lb)] hS λa w hF hS=>?_;refine qnB [] hF λa hF=>?_;refine esr<|qn 1 1 [(3,.func (.func gf) #[] lb)] hF λa hF=>?_;have hc:Up Tryz.prog 165 #[.slice none 0 0,.func (.func gf) #[] lb] w (λv w=>∃xs ad cap,Px xs/\xs.length<=n/\v=sv ad xs cap/\St w0 (arr 3 1 fI ad xs.length cap xs::H) w) :=
  Calls.mono (A3d gf lb hent n hn w0 w H Px hseq hS) λe w' h=>let ⟨xs,ad,cap,h1,h2,h3,h4⟩:=h;⟨_,h3,xs,ad,cap,h1,h2,rfl,h4⟩
 refine SK.wi (qR (λv=>[(4,v)]) hF hc ?_);rintro v w a ⟨xs,ad,cap,hp,hl,rfl,hS⟩ hF;refine rn 1 3 [(2,sv ad xs cap)] hF λa hF=>wfn rfl ?_;exact wpIn_ret (Bx [.tmp 2] [_] hF rfl ⟨rfl,trivial⟩ ⟨_,rfl,xs,ad,cap,hp,hl,rfl,hS⟩)
theorem B5e (l:List Int) (hl:l.length<=1000000) {w0 w:World} {H:List Res} {i cap:Nat} {ad:Option Addr} (hS:St w0 H w) (hi:H[i]? = some (arr 3 1 fI ad l.length cap l)) :
  Calls Tryz.prog 148 #[.slice ad l.length cap] w λe w'=>e=.returned (.tuple #[])/\St w0 (H.set i (arr 3 1 fI ad l.length cap (sortI l))) w':=by
 have hh:=hS.holds _ (List.mem_of_getElem? hi)
 cases ad with
 | none =>
  have h0:l=[]:=by
   obtain ⟨_,_,hx⟩:=hh;rcases hx with ⟨_,hx⟩|⟨g,c,cur,hv,_⟩
   ·exact List.length_eq_zero_iff.1 hx
   ·cases hv
  subst h0;refine (Any.slices_Sort_int_none (P:=Tryz.prog) (ρ:=Tryz.sortI_ren) Tryz.sortI none cap w).mono ?_;rintro e w' ⟨rfl,rfl⟩;refine ⟨rfl,?_⟩;have:H.set i (arr 3 1 fI none ([]:List Int).length cap (sortI []))=H:=by
   apply List.ext_getElem?;intro j;rw [List.getElem?_set]
   split
   ·rename_i hij;subst hij;split
    ·exact hi.symm
    ·rename_i hlt;rw [List.getElem?_eq_none om]
   ·rfl
  rw [this];exact hS
 | some a =>
  have hh':=hh;obtain ⟨_,_,hx⟩:=hh';rcases hx with ⟨hx,_⟩|⟨g,c,cur,hv,_⟩
  ·cases hx
  ·cases hv
   have hK:=Zh D8 dc hh;have hc:=Any.slices_Sort_int (P:=Tryz.prog) (ρ:=Tryz.sortI_ren) Tryz.sortI g 0 cap l w (B1i hK.1) hK.2 om;refine hc.mono ?_;rintro e w' ⟨rfl,m,os,rfl⟩;refine ⟨rfl,?_⟩;rw [C0d,B33];exact Zu D8 dc hS hi (sortI l).toArray (by simpa using (Vd l).length_eq) m os
theorem A9r {μ:Frz} (b:Nat) (ad:Option Addr) (cap:Nat) (l:List Int) (hl:l.length<=1000000) (w0 w1:World) (hlow:Ar w0 μ) (hB:BlkM μ b 54 #[sv ad l cap]) (hA:ArrM μ 1 fI ad cap l) (H:List Res) (hS:St w0 (Lt w0.heap.size μ::H) w1) :
  Up Tryz.prog 121 #[.func (.func 149) #[] #[pb b]] w1 (λv w=>∃ad2 cap2,v=sv ad2 (sortI l) cap2/\St w0 (arr 3 1 fI ad2 (sortI l).length cap2 (sortI l)::Lt w0.heap.size μ::H) w):=by
 refine feW Tryz.func121 9 [(0,.func (.func 149) #[] #[pb b])] hS λa w hF hS=>?_;refine qnB [] hF λa hF=>?_;refine esr<|qn 1 1 [(4,.func (.func 149) #[] #[pb b])] hF λa hF=>?_;refine SK.wi (qR (λv=>[(5,v)]) hF (A63 149 #[pb b] (λ_=>by kernel_rfl) l.length hl w0 w _ _ (A5u w0 hlow b ad cap l hl hB hA H) hS) ?_);rintro v w a ⟨xs,ad2,cap2,rfl,_,rfl,hS⟩ hF;refine rn 1 3 [(3,sv ad2 xs cap2)] hF λa hF=>wfn rfl ?_;refine esr<|qn 1 1 [(6,sv ad2 xs cap2)] hF λa hF=>?_;have hc:Up Tryz.prog 148 #[sv ad2 xs cap2] w (λv w=>v=.tuple #[]/\St w0 (arr 3 1 fI ad2 xs.length cap2 (sortI xs)::Lt w0.heap.size μ::H) w) :=
  Calls.mono (B5e xs om (i:=0) hS rfl) λe w' h=>⟨_,h.1,rfl,h.2⟩
 refine SK.wi (qR (λv=>[]) hF hc ?_);rintro v w a ⟨rfl,hS⟩ hF;refine WI.fin rfl ?_;refine A5 ?_;refine esr<|rn 2 2 [(2,sv ad2 xs cap2)] hF λa hF=>wfn rfl ?_;have hle:(sortI xs).length=xs.length:=(Vd xs).length_eq;refine wpIn_ret (Bx [.tmp 2] [_] hF rfl ⟨rfl,trivial⟩ ⟨_,rfl,ad2,cap2,?_,?_⟩)
 ·show sv ad2 xs cap2=sv ad2 (sortI xs) cap2;unfold sv;rw [hle]
 ·rw [hle];exact hS
theorem Z6 (F:Nat) (c0_0_ res:List Int) (h:R7 F c0_0_=some res) (μ:Frz) (w0:World) (hm:FrzAt μ w0) {cb1:Nat} {ad1:Option Addr} {cap2:Nat} (hcb1:BlkM μ cb1 54 #[sv ad1 c0_0_ cap2]) (hA3:ArrM μ 1 fI ad1 cap2 c0_0_) :
  Up Tryz.prog 121 #[.func (.func 149) #[] #[pb cb1]] w0 (λe w=>∃ad cap,e=sv ad res cap/\St w0 [arr 3 1 fI ad res.length cap res] w):=by
 unfold R7 at h
 split at h
 ·rename_i hl
  cases h
  obtain ⟨hlow,hS⟩:=hm.init;exact Calls.mono (A9r cb1 ad1 cap2 c0_0_ hl w0 w0 hlow hcb1 hA3 [] hS) λe w ⟨v,hv,ad,cap,h1,h2⟩=>⟨v,hv,ad,cap,h1,St.pick [0] dc h2⟩
 ·cases h
end Go.Proofs.YtfkeddejdahnhaaGreatDoor
