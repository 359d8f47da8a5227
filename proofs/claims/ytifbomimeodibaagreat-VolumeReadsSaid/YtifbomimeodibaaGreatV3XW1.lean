import Derived.Test.YtifbomimeodibaaGreatV3XD
import Derived.Test.YtifbomimeodibaaGreatProg
import Derived.Test.YtifbomimeodibaaGreatV3WnB
namespace Go.Proofs.YtifbomimeodibaaGreat
open Go Go.RowKit Go.Eng
set_option maxRecDepth 10000
set_option maxHeartbeats 4000000
set_option linter.unusedVariables false
set_option linter.unusedSimpArgs false
theorem Mn {σ γ:Type} (F:Nat) (c0_:(List Int)) (body:σ→(Int×(List Int))→Option (σ×Bool)) (s_:σ) (res:σ×Bool) (h:Fa F c0_ body s_=some res) (l_:Nat) (μ:Frz) (w0 w1:World) (RC:σ→Bool→γ→List Res) (PC:σ→Bool→γ→Frz→Prop) (hPm:∀s b g μ ν,PC s b g μ→μ.le ν→PC s b g ν) (hy:∀(s:σ) (x:(Int×(List Int))) (q:σ×Bool),body s x=some q→∀(ν:Frz) (g:γ) (G:List Res) (w:World) (ad_1:Option Addr) (cap_2:Nat),μ.ext w0.heap.size ν→Ay w0 ν→PC s true g ν→ArrM ν 1 (fK .u8) ad_1 cap_2 x.2→St w0 (fz w0 ν::(RC s true g++G)) w→Eng.Yields Tryz.prog l_ #[iv x.1,sv ad_1 x.2 cap_2] w (fun c w2=>c=q.2∧∃ν2 g2,ν.ext w0.heap.size ν2∧Ay w0 ν2∧PC q.1 q.2 g2 ν2∧St w0 (fz w0 ν2::(RC q.1 q.2 g2++G)) w2)) (g_:γ) (G_:List Res) (hlow:Ay w0 μ) (hP:PC s_ true g_ μ) (hS:St w0 (fz w0 μ::(RC s_ true g_++G_)) w1) {cb1:Nat} {ad1:Option Addr} {cap2:Nat} (hcb1:BlkM μ cb1 22 #[sv ad1 c0_ cap2]) (hA3:ArrM μ 1 (fK .u8) ad1 cap2 c0_):Calls Tryz.prog 65 #[.func (.yield l_) #[] #[],pb cb1] w1 (fun e w=>∃(ν_:Frz) (g2_:γ),μ.ext w0.heap.size ν_∧Ay w0 ν_∧PC res.1 res.2 g2_ ν_∧e=.returned (.tuple #[])∧St w0 (fz w0 ν_::(RC res.1 res.2 g2_++G_)) w):=by
 rw [Fa] at h
 have hext:=Frz.ext_refl w0.heap.size μ
 refine Ah Tryz.func65 rfl 45 [(0,.func (.yield l_) #[] #[]),(1,pb cb1)] rfl rfl kr fun a w hw hF=>?_
 replace hS:=hS.cast hw
 clear hw
 refine esr ?_
 refine qx 3 3 [(3,iv (Bf c0_ 0))] hF (oX (.run [] (Instr.loadAt 22 (pb cb1)) (sv ad1 c0_ cap2)) (ob1 kr (fun _ hd=>(hcb1.blk ((hS.later hd).frz (i:=0) rfl hlow)).cell1 (j:=0) rfl))<|oC (fun w2 hd=>M9 c0_ 0 _ rfl _ w2 (Ae w2) (hA3.mono (FrzAt.le_mem ((hS.later hd).frz (i:=0) rfl hlow))))<|A9) fun a w hF hx=>?_
 replace hS:=hS.later hx
 refine wfn rfl ?_
 refine wpIn_block ?_
 have aL:=Frz.le_refl μ
 refine Cq (fun n_ a w=>∃(a0:Int) (a7:σ) (ν55:Frz) (a8:γ),Fr 45 [] [(0,.func (.yield l_) #[] #[]),(1,pb cb1),(3,iv a0)] a∧St w0 (fz w0 ν55::(RC a7 true a8++G_)) w∧(PC a7 true a8 ν55)∧(μ.le ν55)∧(μ.ext w0.heap.size ν55)∧(Ay w0 ν55)∧Dh body c0_ n_ a0 a7=some res) F ⟨(Bf c0_ 0),s_,μ,g_,hF.sub kr,hS,hP,aL,hext,hlow,h⟩ ?_
 clear aL
 rintro nk1 a w ⟨a0,a7,ν55,a8,hF,hS,hP,a5,hext,hlow,h⟩
 rcases nk1 with _|nk1
 ·cases (show (none:Option (σ×Bool))=some res from h)
 replace hcb1:=hcb1.mono a5
 replace hA3:=hA3.mono a5
 obtain ⟨k1,hk1⟩:∃k,k=Dh body c0_ nk1:=⟨_,rfl⟩
 replace h:G1 body c0_ k1 a0 a7=some res:=by rw [hk1];exact h
 rw [G1] at h
 refine Ar ?_
 refine qoB [(14,.bool (bif (decide (a0≥0)) then (decide (a0<(ln c0_))) else false))] hF (oX (.run [⟨9,true,(decide (a0≥0))⟩] (Instr.loadAt 22 (pb cb1)) (sv ad1 c0_ cap2)) (ob1 kr (fun _ hd=>(hcb1.blk ((hS.at_ hd).frz (i:=0) rfl hlow)).cell1 (j:=0) rfl))<|A9) fun a hF=>?_
 refine Ai hF rfl (fun hc=>?_) (fun hc=>?_)
 ·replace h:=Ag h hc
  refine wpIn_skip (A0 ?_)
  refine wpIn_block ?_
  refine esr ?_
  obtain ⟨aI,aS,h⟩:=A1 h
  obtain ⟨a3,aM,h⟩:=A1 h
  have aE:ArrM ν55 1 (fK .u8) (Aq ad1 cap2 aI.toNat 1) (cap2-aI.toNat) a3:=fun w_ hw_=>(hA3 w_ hw_).cutD (Bc .u8) aM
  refine qx 6 6 [(4,iv (Bf a3 0))] hF (oX (.run [] (Instr.loadAt 22 (pb cb1)) (sv ad1 c0_ cap2)) (ob1 kr (fun _ hd=>(hcb1.blk ((hS.later hd).frz (i:=0) rfl hlow)).cell1 (j:=0) rfl))<|oA 3 aS<|oX (.run [] (Instr.sliceAt 22 (sv ad1 c0_ cap2) (some (iv aI)) none none) (.slice (Aq ad1 cap2 aI.toNat 1) a3.length (cap2-aI.toNat))) (Kq kr (hA3 _ (hS.frz (i:=0) rfl hlow)) (fun _=>aM))<|oC (fun w2 hd=>M9 a3 0 _ rfl _ w2 (Ae w2) (aE.mono (FrzAt.le_mem ((hS.later hd).frz (i:=0) rfl hlow))))<|A9) fun a w hF hx=>?_
  replace hS:=hS.later hx
  refine wfn rfl ?_
  refine Ar ?_
  refine qnB [(21,.bool (decide ((Bf a3 0)<0)))] hF fun a hF=>?_
  refine Ai hF rfl (fun hc=>?_) (fun hc=>?_)
  ·replace h:=Ag h hc
   refine esr ?_
   obtain ⟨a1,aT,h⟩:=A1 h
   obtain ⟨aG,aN,h⟩:=A1 h
   have aJ:ArrM ν55 1 (fK .u8) (Aq ad1 cap2 a1.toNat 1) (cap2-a1.toNat) aG:=fun w_ hw_=>(hA3 w_ hw_).cutD (Bc .u8) aN
   refine ro 6 6 [(22,.func (.yield l_) #[] #[]),(23,iv a0),(27,.slice (Aq ad1 cap2 a1.toNat 1) aG.length (cap2-a1.toNat))] hF (oX (.run [] (Instr.loadAt 22 (pb cb1)) (sv ad1 c0_ cap2)) (ob1 kr (fun _ hd=>(hcb1.blk ((hS.at_ hd).frz (i:=0) rfl hlow)).cell1 (j:=0) rfl))<|oA 3 aT<|oX (.run [] (Instr.sliceAt 22 (sv ad1 c0_ cap2) (some (iv a1)) none none) (.slice (Aq ad1 cap2 a1.toNat 1) aG.length (cap2-a1.toNat))) (Kq kr (hA3 _ (hS.frz (i:=0) rfl hlow)) (fun _=>aN))<|A9) fun a hF=>?_
   obtain ⟨aB,aQ,h⟩:=A1 h
   refine A0e (l:=l_) (args:=#[iv a0,.slice (Aq ad1 cap2 a1.toNat 1) aG.length (cap2-a1.toNat)]) 7 (fun bq_=>[]) hF kr ⟨kr⟩ (hy a7 (a0,aG) aB aQ ν55 a8 (G_++[]) w (Aq ad1 cap2 a1.toNat 1) (cap2-a1.toNat) hext hlow hP aJ (St.rot [] hS)) (fun _=>⟨kr⟩) rfl ?_
   rintro bq_ w a ⟨hc_,ν68,aC,a9,hlow,hP,hS⟩ hF
   subst hc_
   replace hS:=St.unrot [] hS
   replace hext:=Frz.ext_trans hext a9
   replace hcb1:=hcb1.mono a9.1
   replace hA3:=hA3.mono a9.1
   replace aE:=aE.mono a9.1
   replace aJ:=aJ.mono a9.1
   replace a5:=Frz.le_trans a5 a9.1
   replace hS:St w0 (fz w0 ν68::(RC aB.1 (aB.2) aC++G_)) w:=hS
   rcases Bool.eq_false_or_eq_true (aB.2) with aF|aF
   ·replace h:=Ag h aF
    rw [aF] at hS hP
    replace hS:St w0 (fz w0 ν68::(RC aB.1 true aC++G_)) w:=hS
    refine wfn rfl ?_
    refine wpIn_ret (A5<|Al<|A5<|Al<|Ab [] [] hF rfl trivial ?_)
    obtain rfl:=Ao h
    exact ⟨ν68,aC,hext,hlow,hP,rfl,hS⟩
   ·replace h:=Af h aF
    rw [aF] at hS hP
    replace hS:St w0 (fz w0 ν68::(RC aB.1 false aC++G_)) w:=hS
    refine wfn rfl ?_
    refine wpIn_ret (A5<|Al<|A5<|Al<|Ab [] [] hF rfl trivial ?_)
    obtain rfl:=Ao h
    exact ⟨ν68,aC,hext,hlow,hP,rfl,hS⟩
  ·replace h:=Af h hc
   refine wpIn_skip (A0 ?_)
   refine Ar ?_
   refine esr ?_
   obtain ⟨a2,aU,h⟩:=A1 h
   obtain ⟨b0,aV,h⟩:=A1 h
   obtain ⟨aZ,aW,h⟩:=A1 h
   obtain ⟨aH,aO,h⟩:=A1 h
   have aK:ArrM ν55 1 (fK .u8) (Aq ad1 cap2 a2.toNat 1) (cap2-a2.toNat) aH:=fun w_ hw_=>(hA3 w_ hw_).cutD (Bc .u8) aO
   refine qo 10 10 [(29,.func (.yield l_) #[] #[]),(30,iv a0),(38,.slice (Aq ad1 cap2 a2.toNat 1) aH.length (cap2-a2.toNat))] hF (oX (.run [] (Instr.loadAt 22 (pb cb1)) (sv ad1 c0_ cap2)) (ob1 kr (fun _ hd=>(hcb1.blk ((hS.at_ hd).frz (i:=0) rfl hlow)).cell1 (j:=0) rfl))<|oA 3 aU<|oA 3 aV<|oA 3 aW<|oX (.run [] (Instr.sliceAt 22 (sv ad1 c0_ cap2) (some (iv a2)) (some (iv aZ)) none) (.slice (Aq ad1 cap2 a2.toNat 1) aH.length (cap2-a2.toNat))) (Rs kr (hA3 _ (hS.frz (i:=0) rfl hlow)) (fun _=>aO))<|A9) fun a hF=>?_
   obtain ⟨a6,aR,h⟩:=A1 h
   refine A0e (l:=l_) (args:=#[iv a0,.slice (Aq ad1 cap2 a2.toNat 1) aH.length (cap2-a2.toNat)]) 11 (fun bq_=>[(0,.func (.yield l_) #[] #[]),(1,pb cb1),(3,iv a0),(4,iv (Bf a3 0)),(39,.bool bq_)]) hF kr ⟨kr⟩ (hy a7 (a0,aH) a6 aR ν55 a8 (G_++[]) w (Aq ad1 cap2 a2.toNat 1) (cap2-a2.toNat) hext hlow hP aK (St.rot [] hS)) (fun _=>⟨kr⟩) rfl ?_
   rintro bq_ w a ⟨hc_,ν78,aD,aA,hlow,hP,hS⟩ hF
   subst hc_
   replace hS:=St.unrot [] hS
   replace hext:=Frz.ext_trans hext aA
   replace hcb1:=hcb1.mono aA.1
   replace hA3:=hA3.mono aA.1
   replace aE:=aE.mono aA.1
   replace aK:=aK.mono aA.1
   replace a5:=Frz.le_trans a5 aA.1
   replace hS:St w0 (fz w0 ν78::(RC a6.1 (a6.2) aD++G_)) w:=hS
   rcases Bool.eq_false_or_eq_true (a6.2) with a4|a4
   ·replace h:=Ag h a4
    rw [a4] at hS hP
    rw [a4] at hF
    replace hS:St w0 (fz w0 ν78::(RC a6.1 true aD++G_)) w:=hS
    refine rn 1 12 [(0,.func (.yield l_) #[] #[]),(1,pb cb1),(3,iv a0),(4,iv (Bf a3 0)),(40,.bool false)] hF fun a hF=>?_
    refine wfn rfl ?_
    refine wpIn_cond_false (hF.get rfl) ?_
    refine wpIn_skip (A0 ?_)
    refine WI.region ?_
    obtain ⟨b1,aX,h⟩:=A1 h
    obtain ⟨aP,aY,h⟩:=A1 h
    refine ro 5 5 [(0,.func (.yield l_) #[] #[]),(1,pb cb1),(3,iv aP)] hF (oA 3 aX<|oA 3 aY<|A9) fun a hF=>?_
    refine WI.fin rfl (Aa<|A0<|?_)
    rw [hk1] at h
    exact ⟨nk1,Nat.lt_succ_self _,aP,a6.1,ν78,aD,hF.sub kr,hS,hP,a5,hext,hlow,h⟩
   ·replace h:=Af h a4
    rw [a4] at hS hP
    rw [a4] at hF
    replace hS:St w0 (fz w0 ν78::(RC a6.1 false aD++G_)) w:=hS
    refine rn 1 12 [(0,.func (.yield l_) #[] #[]),(1,pb cb1),(3,iv a0),(4,iv (Bf a3 0)),(40,.bool true)] hF fun a hF=>?_
    refine wfn rfl ?_
    refine wpIn_cond_true (hF.get rfl) ?_
    refine wpIn_ret (A5<|Al<|A5<|Al<|Ab [] [] hF rfl trivial ?_)
    obtain rfl:=Ao h
    exact ⟨ν78,aD,hext,hlow,hP,rfl,hS⟩
 ·replace h:=Af h hc
  refine wpIn_exit (A7<|A7<|Av<|?_)
  refine J0 hF rfl ?_
  obtain rfl:=Ao h
  exact ⟨ν55,a8,hext,hlow,hP,rfl,hS⟩
theorem Mc (x0:Bool) {b0:Nat} {w0 w:World} {H:List Res} (hS:St w0 (blk b0 4 #[.bool x0]::H) w):CallsDIn (F0 none) 0 Tryz.prog 89 #[pb b0] .returning w (fun e u_ w=>e=.returned (.tuple #[])∧settle u_=.returning∧St w0 (blk b0 4 #[.bool x0]::H) w):=by
 refine K1 Tryz.func89 rfl 9 [(0,pb b0)] [(0,pb b0),(4,.nilIface)] rfl rfl kr kr ⟨kr⟩ ⟨kr⟩ fun a hF=>?_
 refine rn 6 7 [(0,pb b0),(2,.bool false)] hF fun a hF=>?_
 refine wfn rfl ?_
 refine esr ?_
 refine rn 1 1 [(0,pb b0),(8,.bool false)] hF fun a hF=>?_
 refine wfn rfl ?_
 refine wpIn_cond_false (hF.get rfl) ?_
 refine wpIn_skip ?_
 refine J0 hF rfl ?_
 exact ⟨rfl,rfl,hS⟩
theorem Md (x0:Bool) (z_:Int) {b0:Nat} {w0 w:World} {H:List Res} (hS:St w0 (blk b0 4 #[.bool x0]::H) w):CallsDIn (F0 none) 0 Tryz.prog 89 #[pb b0] (.panicking [{ v:=.iface 128 (iv z_),recovered:=false }]) w (fun e u_ w=>e=.returned (.tuple #[])∧settle u_=.returning∧St w0 (blk b0 4 #[.bool false]::H) w):=by
 refine K1 Tryz.func89 rfl 9 [(0,pb b0)] [(0,pb b0),(4,.iface 128 (iv z_))] rfl rfl kr kr ⟨kr⟩ ⟨kr⟩ fun a hF=>?_
 refine rn 6 7 [(0,pb b0),(2,.bool true)] hF fun a hF=>?_
 refine wfn rfl ?_
 refine esr ?_
 refine rn 1 1 [(0,pb b0),(8,.bool true)] hF fun a hF=>?_
 refine wfn rfl ?_
 refine wpIn_cond_true (hF.get rfl) ?_
 refine WI.region ?_
 refine SK.wi (J8 (t:=4) [] 0 0 (.bool false) #[.bool false] hF hS rfl kr ⟨kr⟩ kr kr kr kr ⟨kr⟩ fun w a hF hS=>?_)
 refine WI.fin rfl ?_
 refine J0 hF rfl ?_
 exact ⟨rfl,rfl,hS⟩
theorem Qu (F:Nat) (p0:(List Int)) (res:(List Int)) (h:Ky F p0=some res) (μ:Frz) (w0:World) (hm:FrzAt μ w0) {ad1:Option Addr} {cap2:Nat} (hA3:ArrM μ 1 (fK .u8) ad1 cap2 p0):Bu Tryz.prog 68 #[sv ad1 p0 cap2] w0 (fun e w=>∃zad0 zcap0,e=(sv zad0 res zcap0)∧St w0 [arr 5 1 (fK .u8) zad0 res.length zcap0 res] w):=by
 obtain ⟨hlow,hS⟩:=hm.init
 have hext:=Frz.ext_refl w0.heap.size μ
 rw [Ky] at h
 refine Ah Tryz.func68 rfl 43 [(0,sv ad1 p0 cap2)] rfl rfl kr fun a w hw hF=>?_
 replace hS:=hS.cast hw
 clear hw
 refine qnB [] hF fun a hF=>?_
 refine qnB [(3,iv 1)] hF fun a hF=>?_
 refine Dg (fun a w=>∃(aA:Int),Fr 43 [] [(3,iv aA)] a∧St w0 [fz w0 μ] w∧Lb F aA=some res) ?_ ?_
 ·skip
  refine qnB [(8,sv ad1 p0 cap2),(9,iv (ln p0)),(10,iv 0)] hF fun a hF=>?_
  refine wpIn_block ?_
  refine Cq (fun n_ a w=>∃(a9:Int) (aC:Int),Fr 43 [] [(3,iv aC),(8,sv ad1 p0 cap2),(9,iv (ln p0)),(10,iv a9)] a∧St w0 [fz w0 μ] w∧Hq F p0 n_ a9 aC=some res) F ⟨0,1,hF.sub kr,St.pick [0] (by decide) hS,h⟩ ?_
  rintro nk4 a w ⟨a9,aC,hF,hS,h⟩
  rcases nk4 with _|nk4
  ·cases (show (none:Option (List Int))=some res from h)
  obtain ⟨k4,hk4⟩:∃k,k=Hq F p0 nk4:=⟨_,rfl⟩
  replace h:La F p0 k4 a9 aC=some res:=by rw [hk4];exact h
  rw [La] at h
  refine qnB [(11,.bool (decide (a9<(ln p0))))] hF fun a hF=>?_
  refine Ar ?_
  refine Ai hF rfl (fun hc=>?_) (fun hc=>?_)
  ·replace h:=Ag h hc
   refine wpIn_skip (A0 ?_)
   refine Ar ?_
   refine wpIn_block ?_
   refine esr ?_
   obtain ⟨aO,aJ,h⟩:=A1 h
   refine qo 3 3 [(5,.int .u8 aO)] hF (oI 22 (hA3 _ (hS.frz (i:=0) rfl hlow)) aJ<|oE 5 0 (Bc .u8) (fun _ hd=>(hA3 _ ((hS.at_ hd).frz (i:=0) rfl hlow))) aJ rfl<|A9) fun a hF=>?_
   refine wfn rfl ?_
   refine WI.region ?_
   obtain ⟨b6,aU,h⟩:=A1 h
   obtain ⟨b5,aV,h⟩:=A1 h
   obtain ⟨b7,aW,h⟩:=A1 h
   obtain ⟨aH,aX,h⟩:=A1 h
   refine ro 7 7 [(3,iv aH),(8,sv ad1 p0 cap2),(9,iv (ln p0)),(10,iv a9)] hF (oM 3 aU<|oX (.run [] (convert 5 3 (.int .u8 aO)) (iv b5)) (Rr kr kr (fun _=>aV))<|oA 3 aW<|oR 3 aX<|A9) fun a hF=>?_
   refine WI.fin rfl (Aa<|A0<|?_)
   refine WI.region ?_
   obtain ⟨aP,aY,h⟩:=A1 h
   refine ro 2 2 [(3,iv aH),(8,sv ad1 p0 cap2),(9,iv (ln p0)),(10,iv aP)] hF (oA 3 aY<|A9) fun a hF=>?_
   refine wfn rfl ?_
   rw [hk4] at h
   exact ⟨nk4,Nat.lt_succ_self _,aP,aH,hF.sub kr,St.pick [0] (by decide) hS,h⟩
  ·replace h:=Af h hc
   refine wpIn_exit (A7<|A7<|Av<|A0 ?_)
   exact ⟨aC,hF.sub kr,St.pick [0] (by decide) hS,h⟩
 rintro a w ⟨aA,hF,hS,h⟩
 rw [Lb] at h
 refine esr ?_
 obtain ⟨a4,aR,h⟩:=A1 h
 refine SK.wi (A34 (e:=5) (sz:=1) (f:=(fK .u8)) (z:=.int .u8 0) (t:=22) (bytes:=1) (fun aF=>[(3,iv aA),(21,.slice (some ⟨aF,0,none⟩) a4.length a4.length)]) 0 hF hS kr ⟨kr⟩ kr kr rfl aR (fun _=>⟨kr⟩) fun aF w a hF hS=>?_)
 refine rn 1 2 [(3,iv aA),(6,.slice (some ⟨aF,0,none⟩) a4.length a4.length)] hF fun a hF=>?_
 refine wfn rfl ?_
 refine Dg (fun a w=>∃(a8:(List Int)) (a6:Option Addr) (a7:Nat),Fr 43 [] [(6,sv a6 a8 a7)] a∧St w0 [arr 5 1 (fK .u8) a6 a8.length a7 a8,fz w0 μ] w∧Lc a8=some res) ?_ ?_
 ·skip
  refine qnB [(23,iv (ln a4)),(24,iv 0)] hF fun a hF=>?_
  refine wpIn_block ?_
  refine Cq (fun n_ a w=>∃(a2:Int) (a0:Int) (aD:Int) (a5:(List Int)) (a1:Option Addr) (a3:Nat),Fr 43 [] [(3,iv aD),(6,sv a1 a5 a3),(23,iv a2),(24,iv a0)] a∧St w0 [arr 5 1 (fK .u8) a1 a5.length a3 a5,fz w0 μ] w∧Ex n_ a2 a0 aD a5=some res) F ⟨(ln a4),0,aA,a4,(some ⟨aF,0,none⟩),a4.length,hF.sub kr,St.pick [0,1] (by decide) hS,h⟩ ?_
  rintro nk3 a w ⟨a2,a0,aD,a5,a1,a3,hF,hS,h⟩
  rcases nk3 with _|nk3
  ·cases (show (none:Option (List Int))=some res from h)
  obtain ⟨k3,hk3⟩:∃k,k=Ex nk3:=⟨_,rfl⟩
  replace h:Jp k3 a2 a0 aD a5=some res:=by rw [hk3];exact h
  rw [Jp] at h
  refine qnB [(25,.bool (decide (a0<a2)))] hF fun a hF=>?_
  refine Ar ?_
  refine Ai hF rfl (fun hc=>?_) (fun hc=>?_)
  ·replace h:=Ag h hc
   refine wpIn_skip (A0 ?_)
   refine Ar ?_
   refine wpIn_block ?_
   refine qnB [(7,iv a0)] hF fun a hF=>?_
   refine esr ?_
   obtain ⟨b8,aZ,h⟩:=A1 h
   obtain ⟨aE,b0,h⟩:=A1 h
   obtain ⟨b4,aM,h⟩:=A1 h
   refine qo 7 7 [(32,.int .u8 (IntKind.u8.wrap aE)),(33,.pointer (some (Bj a1 a0 1)))] hF (oR 3 aZ<|oA 3 b0<|oX (.run [] (convert 3 5 (iv aE)) (.int .u8 (IntKind.u8.wrap aE))) (Bs kr)<|oI 22 (hS.arr (i:=0) rfl) aM<|A9) fun a hF=>?_
   obtain ⟨aG,aT,h⟩:=A1 h
   refine SK.wi (A3h (j:=a0) (t:=5) [(3,iv aD),(6,sv a1 a5 a3),(23,iv a2),(24,iv a0)] 0 0 b4 (IntKind.u8.wrap aE) (.int .u8 (IntKind.u8.wrap aE)) hF hS rfl kr ⟨kr⟩ (Bc .u8) aM rfl kr kr kr aT ⟨kr⟩ fun w a hF hl hS=>?_)
   simp only [sv,ln,hl] at hF hS
   refine wfn rfl ?_
   refine WI.region ?_
   obtain ⟨aI,b1,h⟩:=A1 h
   refine ro 3 3 [(3,iv aI),(6,sv a1 aG a3),(23,iv a2),(24,iv a0)] hF (oQ 3 b1<|A9) fun a hF=>?_
   refine WI.fin rfl (Aa<|A0<|?_)
   refine WI.region ?_
   obtain ⟨aQ,b2,h⟩:=A1 h
   refine ro 2 2 [(3,iv aI),(6,sv a1 aG a3),(23,iv a2),(24,iv aQ)] hF (oA 3 b2<|A9) fun a hF=>?_
   refine wfn rfl ?_
   rw [hk3] at h
   exact ⟨nk3,Nat.lt_succ_self _,a2,aQ,aI,aG,a1,a3,hF.sub kr,St.pick [0,1] (by decide) hS,h⟩
  ·replace h:=Af h hc
   refine wpIn_exit (A7<|A7<|Av<|A0 ?_)
   exact ⟨a5,a1,a3,hF.sub kr,St.pick [0,1] (by decide) hS,h⟩
 rintro a w ⟨a8,a6,a7,hF,hS,h⟩
 rw [Lc] at h
 refine esr ?_
 obtain ⟨aB,aK,h⟩:=A1 h
 obtain ⟨b3,aL,h⟩:=A1 h
 refine qo 5 5 [(40,.int .u8 (IntKind.u8.wrap (aB-127))),(41,.pointer (some (Bj a6 4 1)))] hF (oI 22 (hS.arr (i:=0) rfl) aK<|oE 5 0 (Bc .u8) (fun _ hd=>((hS.at_ hd).arr (i:=0) rfl)) aK rfl<|oX (.run [] (binOp .sub 5 (.int .u8 aB) (.int .u8 127)) (.int .u8 (IntKind.u8.wrap (aB-127)))) (obW kr)<|oI 22 (hS.arr (i:=0) rfl) aL<|A9) fun a hF=>?_
 obtain ⟨aN,aS,h⟩:=A1 h
 refine SK.wi (A3h (j:=4) (t:=5) [(6,sv a6 a8 a7)] 0 0 b3 (IntKind.u8.wrap (aB-127)) (.int .u8 (IntKind.u8.wrap (aB-127))) hF hS rfl kr ⟨kr⟩ (Bc .u8) aL rfl kr kr kr aS ⟨kr⟩ fun w a hF hl hS=>?_)
 simp only [sv,ln,hl] at hF hS
 refine wfn rfl ?_
 refine rnB [(2,sv a6 aN a7)] hF fun a hF=>?_
 refine wpIn_ret (Ab [.tmp 2] [sv a6 aN a7] hF rfl ⟨rfl,trivial⟩ ?_)
 obtain rfl:=Ao h
 exact ⟨_,rfl,_,_,rfl,St.pick [0] (by decide) hS⟩
theorem Mp (x0:Value) (x1:Int) {b0 b1:Nat} {w0 w:World} {H:List Res} (hS:St w0 (blk b0 80 #[x0]::blk b1 25 #[iv x1]::H) w):CallsDIn (F0 none) 0 Tryz.prog 69 #[pb b0,pb b1] .returning w (fun e u_ w=>e=.returned (.tuple #[])∧settle u_=.returning∧St w0 (blk b0 80 #[x0]::blk b1 25 #[iv x1]::H) w):=by
 refine K1 Tryz.func69 rfl 11 [(0,pb b0),(1,pb b1)] [(0,pb b0),(1,pb b1),(5,.nilIface)] rfl rfl kr kr ⟨kr⟩ ⟨kr⟩ fun a hF=>?_
 refine rn 6 7 [(0,pb b0),(1,pb b1),(2,iv 0),(3,.bool false)] hF fun a hF=>?_
 refine wfn rfl ?_
 refine esr ?_
 refine rn 1 1 [(0,pb b0),(1,pb b1),(2,iv 0),(9,.bool false)] hF fun a hF=>?_
 refine wfn rfl ?_
 refine wpIn_cond_false (hF.get rfl) ?_
 refine wpIn_skip ?_
 refine J0 hF rfl ?_
 exact ⟨rfl,rfl,hS⟩
theorem Mq (x0:Value) (x1:Int) (z_:Int) {b0 b1:Nat} {w0 w:World} {H:List Res} (hS:St w0 (blk b0 80 #[x0]::blk b1 25 #[iv x1]::H) w):CallsDIn (F0 none) 0 Tryz.prog 69 #[pb b0,pb b1] (.panicking [{ v:=.iface 128 (iv z_),recovered:=false }]) w (fun e u_ w=>e=.returned (.tuple #[])∧settle u_=.returning∧St w0 (blk b0 80 #[.nilIface]::blk b1 25 #[iv z_]::H) w):=by
 refine K1 Tryz.func69 rfl 11 [(0,pb b0),(1,pb b1)] [(0,pb b0),(1,pb b1),(5,.iface 128 (iv z_))] rfl rfl kr kr ⟨kr⟩ ⟨kr⟩ fun a hF=>?_
 refine rn 6 7 [(0,pb b0),(1,pb b1),(2,iv z_),(3,.bool true)] hF fun a hF=>?_
 refine wfn rfl ?_
 refine esr ?_
 refine rn 1 1 [(0,pb b0),(1,pb b1),(2,iv z_),(9,.bool true)] hF fun a hF=>?_
 refine wfn rfl ?_
 refine wpIn_cond_true (hF.get rfl) ?_
 refine WI.region ?_
 refine rn 1 1 [(0,pb b0),(1,pb b1),(10,iv z_)] hF fun a hF=>?_
 refine SK.wi (J8 (t:=80) [(1,pb b1),(10,iv z_)] 0 0 (.nilIface) #[.nilIface] hF hS rfl kr ⟨kr⟩ kr kr kr kr ⟨kr⟩ fun w a hF hS=>?_)
 refine SK.wi (J8 (t:=25) [] 1 0 (iv z_) #[iv z_] hF hS rfl kr ⟨kr⟩ kr kr kr kr ⟨kr⟩ fun w a hF hS=>?_)
 refine WI.fin rfl ?_
 refine J0 hF rfl ?_
 exact ⟨rfl,rfl,hS⟩
theorem Mm (F:Nat) (p0:Int) (res:Except Value Unit) (h:H3 F p0=some res) (μ:Frz) (w0:World) (hm:FrzAt μ w0):Yj Tryz.prog 71 #[iv p0] w0 res (fun r_ e w=>e=(.tuple #[])∧Ext w0 w) (Ext w0):=by
 obtain ⟨hlow,hS⟩:=hm.init
 have hext:=Frz.ext_refl w0.heap.size μ
 rw [H3] at h
 refine Ah Tryz.func71 rfl 5 [(0,iv p0)] rfl rfl kr fun a w hw hF=>?_
 replace hS:=hS.cast hw
 clear hw
 refine rnB [(3,.bool (p0 != 0))] hF fun a hF=>?_
 refine Ai hF rfl (fun hc=>?_) (fun hc=>?_)
 ·replace h:=Ag h hc
  refine WI.region ?_
  refine rn 1 1 [(4,.iface 128 (iv 7))] hF fun a hF=>?_
  refine Ny (t:=128) (v:=iv 7) hF ⟨kr⟩ (Az hF ?_)
  obtain rfl:=Ao h
  exact .inr ⟨_,rfl,rfl,hS.ext⟩
 ·replace h:=Af h hc
  refine wpIn_skip ?_
  refine J0 hF rfl ?_
  obtain rfl:=Ao h
  exact .inl ⟨_,_,rfl,rfl,rfl,hS.ext⟩
theorem At (F:Nat) (p0:volume_writer) (p1:(List Int)) (res:volume_writer) (h:Au F p0 p1=some res) (μ:Frz) (w0 w1:World) (T_:List Res) (hlow:Ay w0 μ) {cb0:Nat} {ad1:Option Addr} {cap2:Nat} {ad3:Option Addr} {cap4:Nat} (hA5:ArrM μ 1 fI ad3 cap4 p1) (hS:St w0 (fz w0 μ::blk cb0 138 #[sv ad1 p0.b cap2]::arrT 5 1 (fK .u8) ad1 p0.b.length cap2 p0.b::T_) w1):Bu Tryz.prog 76 #[pb cb0,sv ad3 p1 cap4] w1 (fun e w=>∃(ν_:Frz) (aN:Option Addr) (aQ:Nat),μ.ext w0.heap.size ν_∧Ay w0 ν_∧e=(.tuple #[])∧St w0 (fz w0 ν_::blk cb0 138 #[sv aN res.b aQ]::arrT 5 1 (fK .u8) aN res.b.length aQ res.b::T_) w):=by
 rw [Au] at h
 have hext:=Frz.ext_refl w0.heap.size μ
 refine Ah Tryz.func76 rfl 42 [(0,pb cb0),(1,sv ad3 p1 cap4)] rfl rfl kr fun a w hw hF=>?_
 replace hS:=hS.cast hw
 clear hw
 refine qnB [(6,sv ad3 p1 cap4),(7,iv (ln p1)),(8,iv 0)] hF fun a hF=>?_
 refine wpIn_block ?_
 refine Cq (fun n_ a w=>∃(a4:(List Int)) (a0:Int) (aA:Option Addr) (aE:Nat),Fr 42 [] [(0,pb cb0),(6,sv ad3 p1 cap4),(7,iv (ln p1)),(8,iv a0)] a∧St w0 (arrT 5 1 (fK .u8) aA a4.length aE a4::fz w0 μ::blk cb0 138 #[sv aA a4 aE]::T_) w∧Eu F p1 n_ a4 a0=some res) F ⟨p0.b,0,ad1,cap2,hF.sub kr,hS.s2,h⟩ ?_
 rintro nk1 a w ⟨a4,a0,aA,aE,hF,hS,h⟩
 rcases nk1 with _|nk1
 ·cases (show (none:Option volume_writer)=some res from h)
 obtain ⟨k1,hk1⟩:∃k,k=Eu F p1 nk1:=⟨_,rfl⟩
 replace h:Gd F p1 k1 a4 a0=some res:=by rw [hk1];exact h
 rw [Gd] at h
 refine qnB [(9,.bool (decide (a0<(ln p1))))] hF fun a hF=>?_
 refine Ar ?_
 refine Ai hF rfl (fun hc=>?_) (fun hc=>?_)
 ·replace h:=Ag h hc
  refine wpIn_skip (A0 ?_)
  refine Dg (fun a w=>∃(a9:(List Int)) (aI:Option Addr) (aJ:Nat),Fr 42 [] [(0,pb cb0),(6,sv ad3 p1 cap4),(7,iv (ln p1)),(8,iv a0)] a∧St w0 (arrT 5 1 (fK .u8) aI a9.length aJ a9::fz w0 μ::blk cb0 138 #[sv aI a9 aJ]::T_) w∧Gf a0 k1 a9=some res) ?_ ?_
  ·skip
   refine wpIn_block ?_
   refine esr ?_
   obtain ⟨aS,aR,h⟩:=A1 h
   refine qo 3 3 [(5,iv aS)] hF (oI 69 (hA5 _ (hS.frz (i:=1) rfl hlow)) aR<|oE 3 0 Gc (fun _ hd=>(hA5 _ ((hS.at_ hd).frz (i:=1) rfl hlow))) aR rfl<|A9) fun a hF=>?_
   refine wfn rfl ?_
   refine Dg (fun a w=>∃(a3:(List Int)) (aM:Int) (aB:Option Addr) (aF:Nat),Fr 42 [] [(0,pb cb0),(5,iv aM),(6,sv ad3 p1 cap4),(7,iv (ln p1)),(8,iv a0)] a∧St w0 (arrT 5 1 (fK .u8) aB a3.length aF a3::fz w0 μ::blk cb0 138 #[sv aB a3 aF]::T_) w∧Gg a0 k1 a3 aM=some res) ?_ ?_
   ·skip
    refine wpIn_block ?_
    refine Cq (fun n_ a w=>∃(a1:(List Int)) (a2:Int) (a7:Option Addr) (a8:Nat),Fr 42 [] [(0,pb cb0),(5,iv a2),(6,sv ad3 p1 cap4),(7,iv (ln p1)),(8,iv a0)] a∧St w0 (arrT 5 1 (fK .u8) a7 a1.length a8 a1::fz w0 μ::blk cb0 138 #[sv a7 a1 a8]::T_) w∧Ev a0 k1 n_ a1 a2=some res) F ⟨a4,aS,aA,aE,hF.sub kr,hS,h⟩ ?_
    rintro nk4 a w ⟨a1,a2,a7,a8,hF,hS,h⟩
    rcases nk4 with _|nk4
    ·cases (show (none:Option volume_writer)=some res from h)
    obtain ⟨k4,hk4⟩:∃k,k=Ev a0 k1 nk4:=⟨_,rfl⟩
    replace h:Ge a0 k1 k4 a1 a2=some res:=by rw [hk4];exact h
    rw [Ge] at h
    refine Ar ?_
    refine qnB [(13,.bool (decide (a2≥127)))] hF fun a hF=>?_
    refine Ai hF rfl (fun hc=>?_) (fun hc=>?_)
    ·replace h:=Ag h hc
     refine wpIn_skip (A0 ?_)
     refine Ar ?_
     refine wpIn_block ?_
     refine WI.region ?_
     obtain ⟨b2,aZ,h⟩:=A1 h
     obtain ⟨a6,b0,h⟩:=A1 h
     refine qo 9 9 [(16,pb cb0),(20,sv a7 a1 a8),(24,.int .u8 (IntKind.u8.wrap a6))] hF (oL 22 2 0 hS.i rfl rfl<|oR 3 aZ<|oA 3 b0<|oX (.run [] (convert 3 5 (iv a6)) (.int .u8 (IntKind.u8.wrap a6))) (Bs kr)<|A9) fun a hF=>?_
     refine SK.wi (G3 (e:=5) (sz:=1) (f:=(fK .u8)) (t:=22) (len:=1) (fun aP=>[(0,pb cb0),(5,iv a2),(6,sv ad3 p1 cap4),(7,iv (ln p1)),(8,iv a0),(16,pb cb0),(20,sv a7 a1 a8),(25,sb aP 1)]) #[(0,.int .u8 (IntKind.u8.wrap a6))] #[.int .u8 (IntKind.u8.wrap a6)] ([IntKind.u8.wrap a6]) hF hS kr ⟨kr⟩ kr (Bc .u8) rfl rfl kr (fun _=>⟨kr⟩) fun aP w a hF hS=>?_)
     obtain ⟨aL,aW,h⟩:=A1 h
     refine SK.wi (T2 (t:=22) (ty:=22) (bytes:=1) (l:=a1) (l':=([IntKind.u8.wrap a6])) (fun aD aH=>[(0,pb cb0),(5,iv a2),(6,sv ad3 p1 cap4),(7,iv (ln p1)),(8,iv a0),(16,pb cb0),(26,sv aD aL aH)]) 1 hF hS rfl kr ⟨kr⟩ kr (hS.arr (i:=0) rfl) (fun _ _=>rfl) aW (fun _ _=>⟨kr⟩) fun aD aH w a hF hS=>?_)
     refine rn 2 13 [(0,pb cb0),(5,iv a2),(6,sv ad3 p1 cap4),(7,iv (ln p1)),(8,iv a0),(26,sv aD aL aH),(28,pb cb0)] hF fun a hF=>?_
     refine SK.wi (qs 22 3 0 (sv aD aL aH) hF hS rfl fun w a hF hS=>?_)
     refine WI.fin rfl (Aa<|A0<|?_)
     refine WI.region ?_
     obtain ⟨aU,b1,h⟩:=A1 h
     refine ro 3 3 [(0,pb cb0),(5,iv aU),(6,sv ad3 p1 cap4),(7,iv (ln p1)),(8,iv a0)] hF (oQ 3 b1<|A9) fun a hF=>?_
     refine wfn rfl ?_
     rw [hk4] at h
     exact ⟨nk4,Nat.lt_succ_self _,aL,aU,aD,aH,hF.sub kr,hS.d0,h⟩
    ·replace h:=Af h hc
     refine wpIn_exit (A7<|A7<|Av<|A0 ?_)
     exact ⟨a1,a2,a7,a8,hF.sub kr,hS,h⟩
   rintro a w ⟨a3,aM,aB,aF,hF,hS,h⟩
   rw [Gg] at h
   refine WI.region ?_
   obtain ⟨a5,aY,h⟩:=A1 h
   refine ro 8 8 [(0,pb cb0),(6,sv ad3 p1 cap4),(7,iv (ln p1)),(8,iv a0),(29,pb cb0),(33,sv aB a3 aF),(36,.int .u8 (IntKind.u8.wrap a5))] hF (oL 22 2 0 hS.i rfl rfl<|oA 3 aY<|oX (.run [] (convert 3 5 (iv a5)) (.int .u8 (IntKind.u8.wrap a5))) (Bs kr)<|A9) fun a hF=>?_
   refine SK.wi (G3 (e:=5) (sz:=1) (f:=(fK .u8)) (t:=22) (len:=1) (fun aO=>[(0,pb cb0),(6,sv ad3 p1 cap4),(7,iv (ln p1)),(8,iv a0),(29,pb cb0),(33,sv aB a3 aF),(37,sb aO 1)]) #[(0,.int .u8 (IntKind.u8.wrap a5))] #[.int .u8 (IntKind.u8.wrap a5)] ([IntKind.u8.wrap a5]) hF hS kr ⟨kr⟩ kr (Bc .u8) rfl rfl kr (fun _=>⟨kr⟩) fun aO w a hF hS=>?_)
   obtain ⟨aK,aV,h⟩:=A1 h
   refine SK.wi (T2 (t:=22) (ty:=22) (bytes:=1) (l:=a3) (l':=([IntKind.u8.wrap a5])) (fun aC aG=>[(0,pb cb0),(6,sv ad3 p1 cap4),(7,iv (ln p1)),(8,iv a0),(29,pb cb0),(38,sv aC aK aG)]) 1 hF hS rfl kr ⟨kr⟩ kr (hS.arr (i:=0) rfl) (fun _ _=>rfl) aV (fun _ _=>⟨kr⟩) fun aC aG w a hF hS=>?_)
   refine rn 2 12 [(0,pb cb0),(6,sv ad3 p1 cap4),(7,iv (ln p1)),(8,iv a0),(38,sv aC aK aG),(40,pb cb0)] hF fun a hF=>?_
   refine SK.wi (qs 22 3 0 (sv aC aK aG) hF hS rfl fun w a hF hS=>?_)
   refine WI.fin rfl (Aa<|A0<|?_)
   exact ⟨aK,aC,aG,hF.sub kr,hS.d0,h⟩
  rintro a w ⟨a9,aI,aJ,hF,hS,h⟩
  rw [Gf] at h
  refine WI.region ?_
  obtain ⟨aT,aX,h⟩:=A1 h
  refine ro 2 2 [(0,pb cb0),(6,sv ad3 p1 cap4),(7,iv (ln p1)),(8,iv aT)] hF (oA 3 aX<|A9) fun a hF=>?_
  refine wfn rfl ?_
  rw [hk1] at h
  exact ⟨nk1,Nat.lt_succ_self _,a9,aT,aI,aJ,hF.sub kr,hS,h⟩
 ·replace h:=Af h hc
  refine wpIn_exit (A7<|A7<|Av<|?_)
  refine J0 hF rfl ?_
  obtain rfl:=Ao h
  replace hS:=hS.s2.s2
  exact ⟨_,rfl,μ,aA,aE,hext,hlow,rfl,hS⟩
theorem Ap (F:Nat) (p0:ref12_reader) (res:(Int×ref12_reader)) (h:Ac F p0=some res) (μ:Frz) (w0 w1:World) (T_:List Res) (hlow:Ay w0 μ) {cb0:Nat} {ad1:Option Addr} {cap2:Nat} (hA3:ArrM μ 1 (fK .u8) ad1 cap2 p0.b) (hS:St w0 (fz w0 μ::blk cb0 135 #[sv ad1 p0.b cap2,.bool p0.bad]::T_) w1):Bu Tryz.prog 72 #[pb cb0] w1 (fun e w=>∃(ν_:Frz) (a8:Option Addr) (a9:Nat),μ.ext w0.heap.size ν_∧Ay w0 ν_∧e=(iv res.1)∧(ArrM ν_ 1 (fK .u8) a8 a9 res.2.b)∧St w0 (fz w0 ν_::blk cb0 135 #[sv a8 res.2.b a9,.bool res.2.bad]::T_) w):=by
 rw [Ac] at h
 have hext:=Frz.ext_refl w0.heap.size μ
 refine Ah Tryz.func72 rfl 78 [(0,pb cb0)] rfl rfl kr fun a w hw hF=>?_
 replace hS:=hS.cast hw
 clear hw
 refine qnB [] hF fun a hF=>?_
 refine qnB [(3,iv 0),(4,iv 1)] hF fun a hF=>?_
 refine Dg (fun a w=>Fr 78 [] [(0,pb cb0)] a∧St w0 (fz w0 μ::blk cb0 135 #[sv ad1 p0.b cap2,.bool p0.bad]::T_) w∧Du=some res) ?_ ?_
 ·skip
  refine qnB [(5,iv 0)] hF fun a hF=>?_
  refine wpIn_block ?_
  refine Cq (fun n_ a w=>∃(a4:Int) (a3:Int) (a1:Int),Fr 78 [] [(0,pb cb0),(3,iv a4),(4,iv a3),(5,iv a1)] a∧St w0 (fz w0 μ::blk cb0 135 #[sv ad1 p0.b cap2,.bool p0.bad]::T_) w∧Ce p0 n_ a4 a3 a1=some res) F ⟨0,1,0,hF.sub kr,hS,h⟩ ?_
  rintro nk2 a w ⟨a4,a3,a1,hF,hS,h⟩
  rcases nk2 with _|nk2
  ·cases (show (none:Option (Int×ref12_reader))=some res from h)
  obtain ⟨k2,hk2⟩:∃k,k=Ce p0 nk2:=⟨_,rfl⟩
  replace h:F4 p0 k2 a4 a3 a1=some res:=by rw [hk2];exact h
  rw [F4] at h
  refine Ar ?_
  refine qoB [(17,.bool (bif (decide (a1<(ln p0.b))) then (decide (a1<8)) else false))] hF (oL 22 1 0 hS.i rfl rfl<|A9) fun a hF=>?_
  refine Ai hF rfl (fun hc=>?_) (fun hc=>?_)
  ·replace h:=Ag h hc
   refine wpIn_skip (A0 ?_)
   refine Ar ?_
   refine wpIn_block ?_
   refine esr ?_
   obtain ⟨aP,aB,h⟩:=A1 h
   obtain ⟨a2,aF,h⟩:=A1 h
   refine qo 9 9 [(6,iv a2)] hF (oL 22 1 0 hS.i rfl rfl<|oI 22 (hA3 _ (hS.frz (i:=0) rfl hlow)) aB<|oE 5 0 (Bc .u8) (fun _ hd=>(hA3 _ ((hS.at_ hd).frz (i:=0) rfl hlow))) aB rfl<|oX (.run [] (convert 5 3 (.int .u8 aP)) (iv a2)) (Rr kr kr (fun _=>aF))<|A9) fun a hF=>?_
   refine wfn rfl ?_
   refine Ar ?_
   refine qnB [(41,.bool (bif (bif (decide (a2≥1)) then (decide (a2≤127)) else false) then (bif (a1==0) then true else (decide (a2>1))) else false))] hF fun a hF=>?_
   refine Ai hF rfl (fun hc=>?_) (fun hc=>?_)
   ·replace h:=Ag h hc
    refine esr ?_
    obtain ⟨a0,aG,h⟩:=A1 h
    obtain ⟨a5,aA,h⟩:=A1 h
    have aE:ArrM μ 1 (fK .u8) (Aq ad1 cap2 a0.toNat 1) (cap2-a0.toNat) a5:=fun w_ hw_=>(hA3 w_ hw_).cutD (Bc .u8) aA
    refine ro 10 10 [(3,iv a4),(4,iv a3),(6,iv a2),(49,.slice (Aq ad1 cap2 a0.toNat 1) a5.length (cap2-a0.toNat)),(51,pb cb0)] hF (oL 22 1 0 hS.i rfl rfl<|oA 3 aG<|oX (.run [] (Instr.sliceAt 22 (sv ad1 p0.b cap2) (some (iv a0)) none none) (.slice (Aq ad1 cap2 a0.toNat 1) a5.length (cap2-a0.toNat))) (Kq kr (hA3 _ (hS.frz (i:=0) rfl hlow)) (fun _=>aA))<|A9) fun a hF=>?_
    refine SK.wi (qs 22 1 0 (.slice (Aq ad1 cap2 a0.toNat 1) a5.length (cap2-a0.toNat)) hF hS rfl fun w a hF hS=>?_)
    refine wfn rfl ?_
    refine esr ?_
    obtain ⟨aQ,aH,h⟩:=A1 h
    obtain ⟨aR,aI,h⟩:=A1 h
    obtain ⟨aC,aJ,h⟩:=A1 h
    refine ro 7 7 [(2,iv aC)] hF (oS 3 aH<|oM 3 aI<|oA 3 aJ<|A9) fun a hF=>?_
    refine wfn rfl ?_
    refine wpIn_ret (A5<|Al<|A5<|A5<|Al<|A5<|Ab [.tmp 2] [iv aC] hF rfl ⟨rfl,trivial⟩ ?_)
    obtain rfl:=Ao h
    replace hS:=hS
    exact ⟨_,rfl,μ,(Aq ad1 cap2 a0.toNat 1),(cap2-a0.toNat),hext,hlow,rfl,aE,hS⟩
   ·replace h:=Af h hc
    refine wpIn_skip (A0 ?_)
    refine Ar ?_
    refine qnB [(63,.bool (bif (decide (a2<128)) then true else (decide (a2>254))))] hF fun a hF=>?_
    refine Ai hF rfl (fun hc=>?_) (fun hc=>?_)
    ·replace h:=Ag h hc
     refine wpIn_exit (A7<|S0 rfl<|A7<|A7<|Av<|A0 ?_)
     exact ⟨hF.sub kr,hS,h⟩
    ·replace h:=Af h hc
     refine wpIn_skip (A0 ?_)
     refine esr ?_
     obtain ⟨aS,aK,h⟩:=A1 h
     obtain ⟨aT,aL,h⟩:=A1 h
     obtain ⟨a6,aM,h⟩:=A1 h
     refine ro 7 7 [(0,pb cb0),(3,iv a6),(4,iv a3),(5,iv a1)] hF (oS 3 aK<|oM 3 aL<|oA 3 aM<|A9) fun a hF=>?_
     refine wfn rfl ?_
     refine WI.region ?_
     obtain ⟨a7,aN,h⟩:=A1 h
     refine ro 3 3 [(0,pb cb0),(3,iv a6),(4,iv a7),(5,iv a1)] hF (oM 3 aN<|A9) fun a hF=>?_
     refine WI.fin rfl (Aa<|A0<|?_)
     refine WI.region ?_
     obtain ⟨aD,aO,h⟩:=A1 h
     refine ro 3 3 [(0,pb cb0),(3,iv a6),(4,iv a7),(5,iv aD)] hF (oA 3 aO<|A9) fun a hF=>?_
     refine wfn rfl ?_
     rw [hk2] at h
     exact ⟨nk2,Nat.lt_succ_self _,a6,a7,aD,hF.sub kr,hS,h⟩
  ·replace h:=Af h hc
   refine wpIn_exit (A7<|A7<|Av<|A0 ?_)
   exact ⟨hF.sub kr,hS,h⟩
 rintro a w ⟨hF,hS,h⟩
 rw [Du] at h
 refine esr ?_
 refine qn 3 3 [(74,.pointer (some ⟨cb0,1,none⟩))] hF fun a hF=>?_
 refine SK.wi (qs 4 1 1 (.bool true) hF hS rfl fun w a hF hS=>?_)
 refine wfn rfl ?_
 refine esr ?_
 refine rn 3 3 [(77,pb cb0)] hF fun a hF=>?_
 refine SK.wi (J8 (t:=22) [] 1 0 (.slice none 0 0) #[.slice none 0 0,.bool true] hF hS rfl kr ⟨kr⟩ kr kr kr kr ⟨kr⟩ fun w a hF hS=>?_)
 refine wfn rfl ?_
 refine rnB [(2,iv 0)] hF fun a hF=>?_
 refine wpIn_ret (Ab [.tmp 2] [iv 0] hF rfl ⟨rfl,trivial⟩ ?_)
 obtain rfl:=Ao h
 replace hS:=hS
 exact ⟨_,rfl,μ,none,0,hext,hlow,rfl,ArrM.nil,hS⟩
theorem U1 (F:Nat) (p0:(List Int)) (p1:(List Int)) (res:Bool) (h:Mi F p0 p1=some res) (μ:Frz) (w0:World) (hm:FrzAt μ w0) {ad1:Option Addr} {cap2:Nat} {ad4:Option Addr} {cap5:Nat} (hA3:ArrM μ 1 (fK .u8) ad1 cap2 p0) (hA6:ArrM μ 1 (fK .u8) ad4 cap5 p1):Calls Tryz.prog 73 #[sv ad1 p0 cap2,sv ad4 p1 cap5] w0 (fun e w=>e=.returned (.bool res)∧Ext w0 w):=by
 obtain ⟨hlow,hS⟩:=hm.init
 have hext:=Frz.ext_refl w0.heap.size μ
 rw [Mi] at h
 refine Ah Tryz.func73 rfl 26 [(0,sv ad1 p0 cap2),(1,sv ad4 p1 cap5)] rfl rfl kr fun a w hw hF=>?_
 replace hS:=hS.cast hw
 clear hw
 refine qnB [] hF fun a hF=>?_
 refine Ar ?_
 refine qnB [(10,.bool ((ln p0) != (ln p1)))] hF fun a hF=>?_
 refine Ai hF rfl (fun hc=>?_) (fun hc=>?_)
 ·replace h:=Ag h hc
  refine rnB [(4,.bool false)] hF fun a hF=>?_
  refine wpIn_ret (A5<|Ab [.tmp 4] [.bool false] hF rfl ⟨rfl,trivial⟩ ?_)
  obtain rfl:=Ao h
  exact ⟨rfl,hS.ext⟩
 ·replace h:=Af h hc
  refine wpIn_skip (A0 ?_)
  refine Dg (fun a w=>Fr 26 [] [] a∧St w0 [fz w0 μ] w∧N4=some res) ?_ ?_
  ·skip
   refine qnB [(5,iv 0)] hF fun a hF=>?_
   refine wpIn_block ?_
   refine Cq (fun n_ a w=>∃(a0:Int),Fr 26 [] [(0,sv ad1 p0 cap2),(1,sv ad4 p1 cap5),(5,iv a0)] a∧St w0 [fz w0 μ] w∧Ho p0 p1 n_ a0=some res) F ⟨0,hF.sub kr,St.pick [0] (by decide) hS,h⟩ ?_
   rintro nk2 a w ⟨a0,hF,hS,h⟩
   rcases nk2 with _|nk2
   ·cases (show (none:Option Bool)=some res from h)
   obtain ⟨k2,hk2⟩:∃k,k=Ho p0 p1 nk2:=⟨_,rfl⟩
   replace h:L7 p0 p1 k2 a0=some res:=by rw [hk2];exact h
   rw [L7] at h
   refine Ar ?_
   refine qnB [(14,.bool (decide (a0<(ln p0))))] hF fun a hF=>?_
   refine Ai hF rfl (fun hc=>?_) (fun hc=>?_)
   ·replace h:=Ag h hc
    refine wpIn_skip (A0 ?_)
    refine Ar ?_
    refine wpIn_block ?_
    refine Ar ?_
    obtain ⟨a5,a1,h⟩:=A1 h
    obtain ⟨a6,a2,h⟩:=A1 h
    refine qD 9 [(25,.bool (a5 != a6))] hF (oI 22 (hA3 _ (hS.frz (i:=0) rfl hlow)) a1<|oE 5 0 (Bc .u8) (fun _ hd=>(hA3 _ ((hS.later hd).frz (i:=0) rfl hlow))) a1 rfl<|oI 22 (hA6 _ (hS.frz (i:=0) rfl hlow)) a2<|oE 5 0 (Bc .u8) (fun _ hd=>(hA6 _ ((hS.later hd).frz (i:=0) rfl hlow))) a2 rfl<|A9) fun a w hF hx=>?_
    replace hS:=hS.later hx
    refine wfn rfl ?_
    refine Ai hF rfl (fun hc=>?_) (fun hc=>?_)
    ·replace h:=Ag h hc
     refine rnB [(4,.bool false)] hF fun a hF=>?_
     refine wpIn_ret (Al<|A5<|A5<|Al<|A5<|Ab [.tmp 4] [.bool false] hF rfl ⟨rfl,trivial⟩ ?_)
     obtain rfl:=Ao h
     exact ⟨rfl,hS.ext⟩
    ·replace h:=Af h hc
     refine wpIn_skip (Aa<|A0<|?_)
     refine WI.region ?_
     obtain ⟨a3,a4,h⟩:=A1 h
     refine ro 3 3 [(0,sv ad1 p0 cap2),(1,sv ad4 p1 cap5),(5,iv a3)] hF (oA 3 a4<|A9) fun a hF=>?_
     refine wfn rfl ?_
     rw [hk2] at h
     exact ⟨nk2,Nat.lt_succ_self _,a3,hF.sub kr,St.pick [0] (by decide) hS,h⟩
   ·replace h:=Af h hc
    refine wpIn_exit (A7<|A7<|Av<|A0 ?_)
    exact ⟨hF.sub kr,St.pick [0] (by decide) hS,h⟩
  rintro a w ⟨hF,hS,h⟩
  rw [N4] at h
  refine rnB [(4,.bool true)] hF fun a hF=>?_
  refine wpIn_ret (Ab [.tmp 4] [.bool true] hF rfl ⟨rfl,trivial⟩ ?_)
  obtain rfl:=Ao h
  exact ⟨rfl,hS.ext⟩
theorem Uv (F:Nat) (p0:(List Int)) (res:(List Int)) (h:Nf F p0=some res) (μ:Frz) (w0:World) (hm:FrzAt μ w0) {ad1:Option Addr} {cap2:Nat} (hA3:ArrM μ 1 (fK .u8) ad1 cap2 p0):Bu Tryz.prog 74 #[sv ad1 p0 cap2] w0 (fun e w=>∃zad0 zcap0,e=(sv zad0 res zcap0)∧St w0 [arr 5 1 (fK .u8) zad0 res.length zcap0 res] w):=by
 obtain ⟨hlow,hS⟩:=hm.init
 have hext:=Frz.ext_refl w0.heap.size μ
 rw [Nf] at h
 refine Ah Tryz.func74 rfl 41 [(0,sv ad1 p0 cap2)] rfl rfl kr fun a w hw hF=>?_
 replace hS:=hS.cast hw
 clear hw
 refine qnB [] hF fun a hF=>?_
 refine qnB [(3,iv 1)] hF fun a hF=>?_
 refine Dg (fun a w=>∃(aH:Int),Fr 41 [] [(3,iv aH)] a∧St w0 [fz w0 μ] w∧Ly F aH=some res) ?_ ?_
 ·skip
  refine qnB [(4,iv 0)] hF fun a hF=>?_
  refine wpIn_block ?_
  refine Cq (fun n_ a w=>∃(aE:Int) (aA:Int),Fr 41 [] [(0,sv ad1 p0 cap2),(3,iv aE),(4,iv aA)] a∧St w0 [fz w0 μ] w∧Je F p0 n_ aE aA=some res) F ⟨1,0,hF.sub kr,St.pick [0] (by decide) hS,h⟩ ?_
  rintro nk4 a w ⟨aE,aA,hF,hS,h⟩
  rcases nk4 with _|nk4
  ·cases (show (none:Option (List Int))=some res from h)
  obtain ⟨k4,hk4⟩:∃k,k=Je F p0 nk4:=⟨_,rfl⟩
  replace h:Lx F p0 k4 aE aA=some res:=by rw [hk4];exact h
  rw [Lx] at h
  refine Ar ?_
  refine qnB [(10,.bool (decide (aA<(ln p0))))] hF fun a hF=>?_
  refine Ai hF rfl (fun hc=>?_) (fun hc=>?_)
  ·replace h:=Ag h hc
   refine wpIn_skip (A0 ?_)
   refine Ar ?_
   refine wpIn_block ?_
   refine WI.region ?_
   obtain ⟨b6,aX,h⟩:=A1 h
   obtain ⟨b3,aO,h⟩:=A1 h
   obtain ⟨b4,aY,h⟩:=A1 h
   obtain ⟨b7,aZ,h⟩:=A1 h
   obtain ⟨aK,b0,h⟩:=A1 h
   refine ro 10 10 [(0,sv ad1 p0 cap2),(3,iv aK),(4,iv aA)] hF (oM 3 aX<|oI 22 (hA3 _ (hS.frz (i:=0) rfl hlow)) aO<|oE 5 0 (Bc .u8) (fun _ hd=>(hA3 _ ((hS.at_ hd).frz (i:=0) rfl hlow))) aO rfl<|oX (.run [] (convert 5 3 (.int .u8 b3)) (iv b4)) (Rr kr kr (fun _=>aY))<|oA 3 aZ<|oR 3 b0<|A9) fun a hF=>?_
   refine WI.fin rfl (Aa<|A0<|?_)
   refine WI.region ?_
   obtain ⟨aQ,b1,h⟩:=A1 h
   refine ro 3 3 [(0,sv ad1 p0 cap2),(3,iv aK),(4,iv aQ)] hF (oA 3 b1<|A9) fun a hF=>?_
   refine wfn rfl ?_
   rw [hk4] at h
   exact ⟨nk4,Nat.lt_succ_self _,aK,aQ,hF.sub kr,St.pick [0] (by decide) hS,h⟩
  ·replace h:=Af h hc
   refine wpIn_exit (A7<|A7<|Av<|A0 ?_)
   exact ⟨aE,hF.sub kr,St.pick [0] (by decide) hS,h⟩
 rintro a w ⟨aH,hF,hS,h⟩
 rw [Ly] at h
 refine qnB [(5,.slice none 0 0)] hF fun a hF=>?_
 refine Dg (fun a w=>∃(aL:Int) (a4:(List Int)) (aB:Option Addr) (aC:Nat),Fr 41 [] [(3,iv aL),(5,sv aB a4 aC)] a∧St w0 [arr 5 1 (fK .u8) aB a4.length aC a4,fz w0 μ] w∧Lz aL a4=some res) ?_ ?_
 ·skip
  refine qnB [(6,iv 0)] hF fun a hF=>?_
  refine wpIn_block ?_
  replace hS:=hS.nilarr 5 1 (fK .u8)
  refine Cq (fun n_ a w=>∃(a5:Int) (a0:(List Int)) (a1:Int) (a2:Option Addr) (a3:Nat),Fr 41 [] [(3,iv a5),(5,sv a2 a0 a3),(6,iv a1)] a∧St w0 [arr 5 1 (fK .u8) a2 a0.length a3 a0,fz w0 μ] w∧Fp n_ a5 a0 a1=some res) F ⟨aH,[],0,none,0,hF.sub kr,St.pick [0,1] (by decide) hS,h⟩ ?_
  rintro nk3 a w ⟨a5,a0,a1,a2,a3,hF,hS,h⟩
  rcases nk3 with _|nk3
  ·cases (show (none:Option (List Int))=some res from h)
  obtain ⟨k3,hk3⟩:∃k,k=Fp nk3:=⟨_,rfl⟩
  replace h:Kc k3 a5 a0 a1=some res:=by rw [hk3];exact h
  rw [Kc] at h
  refine Ar ?_
  refine qnB [(23,.bool (decide (a1<4)))] hF fun a hF=>?_
  refine Ai hF rfl (fun hc=>?_) (fun hc=>?_)
  ·replace h:=Ag h hc
   refine wpIn_skip (A0 ?_)
   refine Ar ?_
   refine wpIn_block ?_
   refine esr ?_
   obtain ⟨b5,aT,h⟩:=A1 h
   obtain ⟨a6,aU,h⟩:=A1 h
   refine qo 5 5 [(26,sv a2 a0 a3),(30,.int .u8 (IntKind.u8.wrap a6))] hF (oR 3 aT<|oA 3 aU<|oX (.run [] (convert 3 5 (iv a6)) (.int .u8 (IntKind.u8.wrap a6))) (Bs kr)<|A9) fun a hF=>?_
   refine SK.wi (G3 (e:=5) (sz:=1) (f:=(fK .u8)) (t:=22) (len:=1) (fun aM=>[(3,iv a5),(5,sv a2 a0 a3),(6,iv a1),(26,sv a2 a0 a3),(31,sb aM 1)]) #[(0,.int .u8 (IntKind.u8.wrap a6))] #[.int .u8 (IntKind.u8.wrap a6)] ([IntKind.u8.wrap a6]) hF hS kr ⟨kr⟩ kr (Bc .u8) rfl rfl kr (fun _=>⟨kr⟩) fun aM w a hF hS=>?_)
   obtain ⟨aD,aR,h⟩:=A1 h
   refine SK.wi (Rw (t:=22) (ty:=22) (bytes:=1) (l:=a0) (l':=([IntKind.u8.wrap a6])) (fun a8 a9=>[(3,iv a5),(5,sv a2 a0 a3),(6,iv a1),(32,sv a8 aD a9)]) 1 hF hS rfl kr ⟨kr⟩ kr (hS.arr (i:=0) rfl) (fun _ _=>rfl) aR (fun _ _=>⟨kr⟩) fun a8 a9 w a hF hS=>?_)
   refine rn 1 8 [(3,iv a5),(5,sv a8 aD a9),(6,iv a1)] hF fun a hF=>?_
   refine wfn rfl ?_
   refine WI.region ?_
   obtain ⟨aJ,aV,h⟩:=A1 h
   refine ro 3 3 [(3,iv aJ),(5,sv a8 aD a9),(6,iv a1)] hF (oQ 3 aV<|A9) fun a hF=>?_
   refine WI.fin rfl (Aa<|A0<|?_)
   refine WI.region ?_
   obtain ⟨aP,aW,h⟩:=A1 h
   refine ro 3 3 [(3,iv aJ),(5,sv a8 aD a9),(6,iv aP)] hF (oA 3 aW<|A9) fun a hF=>?_
   refine wfn rfl ?_
   rw [hk3] at h
   exact ⟨nk3,Nat.lt_succ_self _,aJ,aD,aP,a8,a9,hF.sub kr,St.pick [1,2] (by decide) hS,h⟩
  ·replace h:=Af h hc
   refine wpIn_exit (A7<|A7<|Av<|A0 ?_)
   exact ⟨a5,a0,a2,a3,hF.sub kr,St.pick [0,1] (by decide) hS,h⟩
 rintro a w ⟨aL,a4,aB,aC,hF,hS,h⟩
 rw [Lz] at h
 refine esr ?_
 obtain ⟨a7,b2,h⟩:=A1 h
 refine ro 4 4 [(35,sv aB a4 aC),(38,.int .u8 (IntKind.u8.wrap a7))] hF (oA 3 b2<|oX (.run [] (convert 3 5 (iv a7)) (.int .u8 (IntKind.u8.wrap a7))) (Bs kr)<|A9) fun a hF=>?_
 refine SK.wi (G3 (e:=5) (sz:=1) (f:=(fK .u8)) (t:=22) (len:=1) (fun aN=>[(35,sv aB a4 aC),(39,sb aN 1)]) #[(0,.int .u8 (IntKind.u8.wrap a7))] #[.int .u8 (IntKind.u8.wrap a7)] ([IntKind.u8.wrap a7]) hF hS kr ⟨kr⟩ kr (Bc .u8) rfl rfl kr (fun _=>⟨kr⟩) fun aN w a hF hS=>?_)
 obtain ⟨aI,aS,h⟩:=A1 h
 refine SK.wi (Rw (t:=22) (ty:=22) (bytes:=1) (l:=a4) (l':=([IntKind.u8.wrap a7])) (fun aF aG=>[(40,sv aF aI aG)]) 1 hF hS rfl kr ⟨kr⟩ kr (hS.arr (i:=0) rfl) (fun _ _=>rfl) aS (fun _ _=>⟨kr⟩) fun aF aG w a hF hS=>?_)
 refine rn 1 7 [(2,sv aF aI aG)] hF fun a hF=>?_
 refine wfn rfl ?_
 refine wpIn_ret (Ab [.tmp 2] [sv aF aI aG] hF rfl ⟨rfl,trivial⟩ ?_)
 obtain rfl:=Ao h
 exact ⟨_,rfl,_,_,rfl,St.pick [1] (by decide) hS⟩
end Go.Proofs.YtifbomimeodibaaGreat
