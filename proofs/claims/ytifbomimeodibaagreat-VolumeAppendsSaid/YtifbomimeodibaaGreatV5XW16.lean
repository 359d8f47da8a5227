import Derived.Test.YtifbomimeodibaaGreatV5XD
import Derived.Test.YtifbomimeodibaaGreatProg
import Derived.Test.YtifbomimeodibaaGreatV5XW2
import Derived.Test.YtifbomimeodibaaGreatV5XW5
import Derived.Test.YtifbomimeodibaaGreatV5XW8
import Derived.Test.YtifbomimeodibaaGreatV5XW12
namespace Go.Proofs.YtifbomimeodibaaGreat
open Go Go.RowKit Go.Eng
set_option maxRecDepth 10000
set_option maxHeartbeats 4000000
set_option linter.unusedVariables false
set_option linter.unusedSimpArgs false
theorem W3 (F:Nat) (p0:ref12_Item) (res:(List Int)) (h:Ku F p0=some res) (μ:Frz) (w0:World) (hm:FrzAt μ w0) {ad1:Option Addr} {cap2:Nat} {css3:List (List Value)} {ad4:Option Addr} {cap5:Nat} (hA6:ArrQ μ 1 Rp87 ad1 cap2 css3 p0.Sweep.Rays) (hA7:ArrM μ 2 api_Span.cells ad4 cap5 p0.Field.Vals):Ba Tryz.prog 77 #[.agg (p0.ax ad1 cap2 ad4 cap5)] w0 (fun e w=>∃zad0 zcap0,e=(sv zad0 res zcap0)∧St w0 [arr 5 1 (fK .u8) zad0 res.length zcap0 res] w):=by
 obtain ⟨hlow,hS⟩:=hm.init
 have hext:=Frz.ext_refl w0.heap.size μ
 rw [Ku] at h
 refine feW Tryz.func77 109 [(0,.agg (p0.ax ad1 cap2 ad4 cap5))] hS fun a w hF hS=>?_
 refine esr<|SK.wi (qBa 49 (p0.ax ad1 cap2 ad4 cap5) (fun b8=>[(1,pb b8)]) hF hS fun b8 w a hF hS=>?_)
 refine qn 1 2 [] hF fun a hF=>wfn rfl ?_
 refine Dx (fun a w=>Fr 109 [] [(1,pb b8)] a∧St w0 [blk b8 49 (p0.ax ad1 cap2 ad4 cap5),fz w0 μ] w∧Ki F p0=some res) ?_ ?_
 ·skip
  refine qoB [(8,iv p0.Kind)] hF (oL 3 0 0 hS.i rfl rfl<|A1) fun a hF=>?_
  refine wpIn_block<|qnB [(9,.bool (p0.Kind==1))] hF fun a hF=>?_
  refine A8 hF h (fun hc h=>?_) fun hc h=>?_
  ·refine esr<|qo 3 3 [(13,p0.Sweep.Site.ag)] hF (oN 38 0 3 8 hS.i rfl<|A1) fun a hF=>?_
   refine SK.wi (qA 38 z38 (fun aC=>[(3,pb aC)]) hF hS fun aC w a hF hS=>?_)
   refine SK.wi (qw 38 0 p0.Sweep.Site.ar hF hS rfl fun w a hF hS=>wfn rfl ?_)
   refine qnB [(4,.slice none 0 0)] hF fun a hF=>?_
   refine Dx (fun a w=>∃(a8:(List api_Echo)) (b1:Option Addr) (b5:Nat),Fr 109 [] [(1,pb b8),(3,pb aC),(4,sv b1 a8 b5)] a∧St w0 [arr 149 14 api_Echo.cells b1 a8.length b5 a8,blk aC 38 p0.Sweep.Site.ar,blk b8 49 (p0.ax ad1 cap2 ad4 cap5),fz w0 μ] w∧Jj F p0 a8=some res) ?_ ?_
   ·skip
    refine qnB [(5,iv 0)] hF fun a hF=>?_
    refine wpIn_block ?_
    replace hS:=hS.nilarr 149 14 api_Echo.cells
    refine Ck (fun n_ a w=>∃(bC:(List api_Echo)) (cX:Int) (d0:Option Addr) (d4:Nat),Fr 109 [] [(1,pb b8),(3,pb aC),(4,sv d0 bC d4),(5,iv cX)] a∧St w0 [arr 149 14 api_Echo.cells d0 bC.length d4 bC,blk aC 38 p0.Sweep.Site.ar,blk b8 49 (p0.ax ad1 cap2 ad4 cap5),fz w0 μ] w∧Hb F p0 n_ bC cX=some res) F ⟨[],0,none,0,hF.sub kr,St.pick [0,1,2,3] (by decide) hS,h⟩ ?_
    rintro nk3 a w ⟨bC,cX,d0,d4,hF,hS,h⟩
    rcases nk3 with _|nk3
    ·cases (show (none:Option (List Int))=some res from h)
    obtain ⟨k3,hk3⟩:∃k,k=Hb F p0 nk3:=⟨_,rfl⟩
    replace h:Mc F p0 k3 bC cX=some res:=by rw [hk3];exact h
    rw [Mc] at h
    refine Am<|qoB [(19,.bool (decide (cX<(ln p0.Sweep.Rays))))] hF (oL 39 2 13 hS.i rfl rfl<|A1) fun a hF=>?_
    refine A8 hF h (fun hc h=>?_) fun hc h=>?_
    ·refine wK<|Am<|wpIn_block<|WI.region ?_
     obtain ⟨gI,eZ,h⟩:=A0 h
     obtain ⟨gM,dP,eU⟩:=Cw hA6.2 eZ
     obtain ⟨eK,eO,rfl,eS⟩:=eU
     refine qo 7 7 [(22,sv d0 bC d4),(28,sv eK gI eO)] hF (oL 39 2 13 hS.i rfl rfl<|oI 39 (hA6.at (hS.frz (i:=3) rfl hlow)) dP<|oE 87 0 (Dg 1) (fun _ hd=>(hA6.at ((hS.at_ hd).frz (i:=3) rfl hlow))) dP rfl<|A1) fun a hF=>?_
     obtain ⟨dF,eV,h⟩:=A0 h
     refine SK.wi (qP 87 87 0 (fun d1 d5=>[(29,sv d1 dF d5)]) hF hS (eS _ (hS.frz (i:=3) rfl hlow)) eV rfl fun d1 d5 w a hF hS=>?_)
     refine rn 1 9 [(1,pb b8),(3,pb aC),(4,sv d1 dF d5),(5,iv cX)] hF fun a hF=>WI.fin rfl (A9<|A3<|?_)
     refine WI.region ?_
     obtain ⟨eH,f0,h⟩:=A0 h
     refine ro 3 3 [(1,pb b8),(3,pb aC),(4,sv d1 dF d5),(5,iv eH)] hF (oA 3 f0<|A1) fun a hF=>wfn rfl ?_
     rw [hk3] at h
     exact ⟨nk3,Nat.lt_succ_self _,dF,eH,d1,d5,hF.sub kr,St.pick [0,1,2,3] (by decide) hS,h⟩
    ·refine wpIn_exit (A5<|A5<|Ar<|A3 ?_)
     exact ⟨bC,d0,d4,hF.sub kr,St.pick [0,1,2,3] (by decide) hS,h⟩
   rintro a w ⟨a8,b1,b5,hF,hS,h⟩
   rw [Jj] at h
   refine Am ?_
   obtain ⟨c3,f5,h⟩:=A0 h
   obtain ⟨c4,f6,h⟩:=A0 h
   obtain ⟨c5,f7,h⟩:=A0 h
   obtain ⟨c6,f8,h⟩:=A0 h
   obtain ⟨aT,f9,h⟩:=A0 h
   obtain ⟨aU,fA,h⟩:=A0 h
   obtain ⟨aV,fB,h⟩:=A0 h
   obtain ⟨aW,fC,h⟩:=A0 h
   obtain ⟨aI,fD,h⟩:=A0 h
   obtain ⟨aJ,fE,h⟩:=A0 h
   obtain ⟨aK,fF,h⟩:=A0 h
   refine Bq 34 [0,3,6,9,12,15,18,21,24,28,32] _ (D:=fun w=>St w0 [arr 149 14 api_Echo.cells b1 a8.length b5 a8,blk aC 38 p0.Sweep.Site.ar,blk b8 49 (p0.ax ad1 cap2 ad4 cap5)] w∧FrzAt μ w) kr kr hF.size (fun w hx=>?_) (fun _ _ h=>h)
   replace hS:=hS.later hx
   refine ⟨⟨St.pick [0,1,2] (by decide) hS,hS.frz (i:=3) rfl hlow⟩,?_⟩
   have gO:=Frz.le_refl μ
   refine WT.s [1,2,4,5,7,8,10,11,13,14,16,17,19,20,22,23,25,26,27,29,30,31,33] [0] kr kr ?_
   refine rC 23 [(32,.string p0.Sweep.Site.Name),(35,iv p0.Sweep.Site.X),(38,iv p0.Sweep.Site.Y),(41,iv p0.Sweep.Site.Z),(44,iv p0.Sweep.Site.Rose),(47,iv p0.Sweep.Site.Gates),(50,iv p0.Sweep.Site.Step),(53,iv p0.Sweep.Site.Width),(57,iv p0.Sweep.Tilt),(61,iv p0.Sweep.Time),(63,sv b1 a8 b5)] hF (oL 9 1 0 (fun _ hd=>hd.1) rfl rfl<|oL 3 1 1 (fun _ hd=>hd.1) rfl rfl<|oL 3 1 2 (fun _ hd=>hd.1) rfl rfl<|oL 3 1 3 (fun _ hd=>hd.1) rfl rfl<|oL 3 1 4 (fun _ hd=>hd.1) rfl rfl<|oL 3 1 5 (fun _ hd=>hd.1) rfl rfl<|oL 3 1 6 (fun _ hd=>hd.1) rfl rfl<|oL 3 1 7 (fun _ hd=>hd.1) rfl rfl<|oL 3 2 11 (fun _ hd=>hd.1) rfl rfl<|oL 3 2 12 (fun _ hd=>hd.1) rfl rfl<|A1) fun a hF=>?_
   refine WRun.fin ?_
   refine all_cons ?_ (Aq)
   refine qR (fun dU=>[(30,dU)]) hF (At F _ _ f5 (B0 w) w (A4 w)) ?_
   rintro dU w a ⟨cD,cN,rfl,hQ⟩ hF
   replace hS:=hS.madeL hQ
   refine ⟨⟨St.pick [1,2,3] (by decide) hS,(hS.frz (i:=4) rfl hlow)⟩,?_⟩
   refine WT.s [] [3] kr kr ?_
   refine WRun.fin ?_
   refine all_cons ?_ (Aq)
   refine qR (fun dV=>[(30,sv cD c3 cN),(33,dV)]) hF (Qh F _ _ f6 (B0 w) w (A4 w)) ?_
   rintro dV w a ⟨cE,cO,rfl,hQ⟩ hF
   replace hS:=hS.madeL hQ
   refine ⟨⟨St.pick [2,3,4] (by decide) hS,(hS.frz (i:=5) rfl hlow)⟩,?_⟩
   refine WT.s [] [6] kr kr ?_
   refine WRun.fin ?_
   refine all_cons ?_ (Aq)
   refine qR (fun dW=>[(33,sv cE c4 cO),(36,dW)]) hF (Ho F _ _ f7 (B0 w) w (A4 w)) ?_
   rintro dW w a ⟨cF,cP,rfl,hQ⟩ hF
   replace hS:=hS.madeL hQ
   refine ⟨⟨St.pick [3,4,5] (by decide) hS,(hS.frz (i:=6) rfl hlow)⟩,?_⟩
   refine WT.s [] [9] kr kr ?_
   refine WRun.fin ?_
   refine all_cons ?_ (Aq)
   refine qR (fun dX=>[(36,sv cF c5 cP),(39,dX)]) hF (Ho F _ _ f8 (B0 w) w (A4 w)) ?_
   rintro dX w a ⟨cG,cQ,rfl,hQ⟩ hF
   replace hS:=hS.madeL hQ
   refine ⟨⟨St.pick [4,5,6] (by decide) hS,(hS.frz (i:=7) rfl hlow)⟩,?_⟩
   refine WT.s [] [12] kr kr ?_
   refine WRun.fin ?_
   refine all_cons ?_ (Aq)
   refine qR (fun dY=>[(39,sv cG c6 cQ),(42,dY)]) hF (At F _ _ f9 (B0 w) w (A4 w)) ?_
   rintro dY w a ⟨bD,bN,rfl,hQ⟩ hF
   replace hS:=hS.madeL hQ
   refine ⟨⟨St.pick [5,6,7] (by decide) hS,(hS.frz (i:=8) rfl hlow)⟩,?_⟩
   refine WT.s [] [15] kr kr ?_
   refine WRun.fin ?_
   refine all_cons ?_ (Aq)
   refine qR (fun dZ=>[(42,sv bD aT bN),(45,dZ)]) hF (At F _ _ fA (B0 w) w (A4 w)) ?_
   rintro dZ w a ⟨bE,bO,rfl,hQ⟩ hF
   replace hS:=hS.madeL hQ
   refine ⟨⟨St.pick [6,7,8] (by decide) hS,(hS.frz (i:=9) rfl hlow)⟩,?_⟩
   refine WT.s [] [18] kr kr ?_
   refine WRun.fin ?_
   refine all_cons ?_ (Aq)
   refine qR (fun e0=>[(45,sv bE aU bO),(48,e0)]) hF (At F _ _ fB (B0 w) w (A4 w)) ?_
   rintro e0 w a ⟨bF,bP,rfl,hQ⟩ hF
   replace hS:=hS.madeL hQ
   refine ⟨⟨St.pick [7,8,9] (by decide) hS,(hS.frz (i:=10) rfl hlow)⟩,?_⟩
   refine WT.s [] [21] kr kr ?_
   refine WRun.fin ?_
   refine all_cons ?_ (Aq)
   refine qR (fun e1=>[(48,sv bF aV bP),(51,e1)]) hF (At F _ _ fC (B0 w) w (A4 w)) ?_
   rintro e1 w a ⟨bG,bQ,rfl,hQ⟩ hF
   replace hS:=hS.madeL hQ
   refine ⟨⟨St.pick [8,9,10] (by decide) hS,(hS.frz (i:=11) rfl hlow)⟩,?_⟩
   refine WT.s [] [24] kr kr ?_
   refine WRun.fin ?_
   refine all_cons ?_ (Aq)
   refine qR (fun e2=>[(51,sv bG aW bQ),(54,e2)]) hF (At F _ _ fD (B0 w) w (A4 w)) ?_
   rintro e2 w a ⟨b2,b6,rfl,hQ⟩ hF
   replace hS:=hS.madeL hQ
   refine ⟨⟨St.pick [9,10,11] (by decide) hS,(hS.frz (i:=12) rfl hlow)⟩,?_⟩
   refine WT.s [] [28] kr kr ?_
   refine WRun.fin ?_
   refine all_cons ?_ (Aq)
   refine qR (fun e3=>[(54,sv b2 aI b6),(58,e3)]) hF (At F _ _ fE (B0 w) w (A4 w)) ?_
   rintro e3 w a ⟨b3,b7,rfl,hQ⟩ hF
   replace hS:=hS.madeL hQ
   refine ⟨⟨St.pick [10,11,12] (by decide) hS,(hS.frz (i:=13) rfl hlow)⟩,?_⟩
   refine WT.s [] [32] kr kr ?_
   refine WRun.fin ?_
   refine all_cons ?_ (Aq)
   refine qR (fun e4=>[(58,sv b3 aJ b7),(62,e4)]) hF (At F _ _ fF (B0 w) w (A4 w)) ?_
   rintro e4 w a ⟨b4,b9,rfl,hQ⟩ hF
   replace hS:=hS.madeL hQ
   refine ⟨⟨St.pick [11,12,13] (by decide) hS,(hS.frz (i:=14) rfl hlow)⟩,?_⟩
   refine WT.z [] kr ?_
   refine WRun.fin ?_
   obtain ⟨aN,fG,h⟩:=A0 h
   refine SK.wi (qR (fun e5=>[(62,sv b4 aK b9),(64,e5)]) hF (Uj F _ _ fG (B0 w) w (A4 w) (Arr.toM (hS.arr (i:=11) rfl))) ?_)
   rintro e5 w a ⟨bH,bR,rfl,hQ⟩ hF
   replace hS:=hS.madeL hQ
   obtain ⟨ν601,dK,hlow,hS,fX⟩:=hS.freeze (i:=15) (j:=11) rfl rfl (by decide) hlow
   replace hA6:=hA6.mono Rp87.mono dK.1
   replace hA7:=hA7.mono dK.1
   replace hext:=hext.t dK
   have a0:=ArrM.of_arr fX
   obtain ⟨ν605,dD,hlow,hS,fY⟩:=hS.freeze (i:=14) (j:=10) rfl rfl (by decide) hlow
   replace hA6:=hA6.mono Rp87.mono dD.1
   replace hA7:=hA7.mono dD.1
   replace a0:=a0.mono dD.1
   replace hext:=hext.t dD
   have a1:=ArrM.of_arr fY
   obtain ⟨ν609,dA,hlow,hS,fZ⟩:=hS.freeze (i:=13) (j:=9) rfl rfl (by decide) hlow
   replace hA6:=hA6.mono Rp87.mono dA.1
   replace hA7:=hA7.mono dA.1
   replace a0:=a0.mono dA.1
   replace a1:=a1.mono dA.1
   replace hext:=hext.t dA
   have a2:=ArrM.of_arr fZ
   obtain ⟨ν613,cV,hlow,hS,g0⟩:=hS.freeze (i:=12) (j:=8) rfl rfl (by decide) hlow
   replace hA6:=hA6.mono Rp87.mono cV.1
   replace hA7:=hA7.mono cV.1
   replace a0:=a0.mono cV.1
   replace a1:=a1.mono cV.1
   replace a2:=a2.mono cV.1
   replace hext:=hext.t cV
   replace hS:St w0 [arr 5 1 (fK .u8) bH aN.length bR aN,arr 5 1 (fK .u8) b4 aK.length b9 aK,arr 5 1 (fK .u8) b3 aJ.length b7 aJ,arr 5 1 (fK .u8) b2 aI.length b6 aI,arr 5 1 (fK .u8) bG aW.length bQ aW,arr 5 1 (fK .u8) bF aV.length bP aV,arr 5 1 (fK .u8) bE aU.length bO aU,arr 5 1 (fK .u8) bD aT.length bN aT,arr 149 14 api_Echo.cells b1 a8.length b5 a8,blk aC 38 p0.Sweep.Site.ar,blk b8 49 (p0.ax ad1 cap2 ad4 cap5),fz w0 ν613] w:=hS
   have a3:=ArrM.of_arr g0
   obtain ⟨ν617,bZ,hlow,hS,g1⟩:=hS.freeze (i:=11) (j:=7) rfl rfl (by decide) hlow
   replace hA6:=hA6.mono Rp87.mono bZ.1
   replace hA7:=hA7.mono bZ.1
   replace a0:=a0.mono bZ.1
   replace a1:=a1.mono bZ.1
   replace a2:=a2.mono bZ.1
   replace a3:=a3.mono bZ.1
   replace hext:=hext.t bZ
   have a5:=ArrM.of_arr g1
   obtain ⟨ν621,bA,hlow,hS,g2⟩:=hS.freeze (i:=10) (j:=6) rfl rfl (by decide) hlow
   replace hA6:=hA6.mono Rp87.mono bA.1
   replace hA7:=hA7.mono bA.1
   replace a0:=a0.mono bA.1
   replace a1:=a1.mono bA.1
   replace a2:=a2.mono bA.1
   replace a3:=a3.mono bA.1
   replace a5:=a5.mono bA.1
   replace hext:=hext.t bA
   have a9:=ArrM.of_arr g2
   obtain ⟨ν625,aR,hlow,hS,g3⟩:=hS.freeze (i:=9) (j:=5) rfl rfl (by decide) hlow
   replace hA6:=hA6.mono Rp87.mono aR.1
   replace hA7:=hA7.mono aR.1
   replace a0:=a0.mono aR.1
   replace a1:=a1.mono aR.1
   replace a2:=a2.mono aR.1
   replace a3:=a3.mono aR.1
   replace a5:=a5.mono aR.1
   replace a9:=a9.mono aR.1
   replace hext:=hext.t aR
   have aE:=ArrM.of_arr g3
   obtain ⟨ν629,aL,hlow,hS,g4⟩:=hS.freeze (i:=8) (j:=4) rfl rfl (by decide) hlow
   replace hA6:=hA6.mono Rp87.mono aL.1
   replace hA7:=hA7.mono aL.1
   replace a0:=a0.mono aL.1
   replace a1:=a1.mono aL.1
   replace a2:=a2.mono aL.1
   replace a3:=a3.mono aL.1
   replace a5:=a5.mono aL.1
   replace a9:=a9.mono aL.1
   replace aE:=aE.mono aL.1
   replace hext:=hext.t aL
   replace hS:St w0 [arr 5 1 (fK .u8) bH aN.length bR aN,arr 5 1 (fK .u8) b4 aK.length b9 aK,arr 5 1 (fK .u8) b3 aJ.length b7 aJ,arr 5 1 (fK .u8) b2 aI.length b6 aI,arr 149 14 api_Echo.cells b1 a8.length b5 a8,blk aC 38 p0.Sweep.Site.ar,blk b8 49 (p0.ax ad1 cap2 ad4 cap5),fz w0 ν629] w:=hS
   have aP:=ArrM.of_arr g4
   obtain ⟨ν633,aG,hlow,hS,g5⟩:=hS.freeze (i:=7) (j:=3) rfl rfl (by decide) hlow
   replace hA6:=hA6.mono Rp87.mono aG.1
   replace hA7:=hA7.mono aG.1
   replace a0:=a0.mono aG.1
   replace a1:=a1.mono aG.1
   replace a2:=a2.mono aG.1
   replace a3:=a3.mono aG.1
   replace a5:=a5.mono aG.1
   replace a9:=a9.mono aG.1
   replace aE:=aE.mono aG.1
   replace aP:=aP.mono aG.1
   replace hext:=hext.t aG
   have bX:=ArrM.of_arr g5
   obtain ⟨ν637,aD,hlow,hS,g6⟩:=hS.freeze (i:=6) (j:=2) rfl rfl (by decide) hlow
   replace hA6:=hA6.mono Rp87.mono aD.1
   replace hA7:=hA7.mono aD.1
   replace a0:=a0.mono aD.1
   replace a1:=a1.mono aD.1
   replace a2:=a2.mono aD.1
   replace a3:=a3.mono aD.1
   replace a5:=a5.mono aD.1
   replace a9:=a9.mono aD.1
   replace aE:=aE.mono aD.1
   replace aP:=aP.mono aD.1
   replace bX:=bX.mono aD.1
   replace hext:=hext.t aD
   have d7:=ArrM.of_arr g6
   obtain ⟨ν641,aB,hlow,hS,g7⟩:=hS.freeze (i:=5) (j:=1) rfl rfl (by decide) hlow
   replace hA6:=hA6.mono Rp87.mono aB.1
   replace hA7:=hA7.mono aB.1
   replace a0:=a0.mono aB.1
   replace a1:=a1.mono aB.1
   replace a2:=a2.mono aB.1
   replace a3:=a3.mono aB.1
   replace a5:=a5.mono aB.1
   replace a9:=a9.mono aB.1
   replace aE:=aE.mono aB.1
   replace aP:=aP.mono aB.1
   replace bX:=bX.mono aB.1
   replace d7:=d7.mono aB.1
   replace hext:=hext.t aB
   have dH:=ArrM.of_arr g7
   obtain ⟨ν645,a7,hlow,hS,g8⟩:=hS.freeze (i:=4) (j:=0) rfl rfl (by decide) hlow
   replace hA6:=hA6.mono Rp87.mono a7.1
   replace hA7:=hA7.mono a7.1
   replace a0:=a0.mono a7.1
   replace a1:=a1.mono a7.1
   replace a2:=a2.mono a7.1
   replace a3:=a3.mono a7.1
   replace a5:=a5.mono a7.1
   replace a9:=a9.mono a7.1
   replace aE:=aE.mono a7.1
   replace aP:=aP.mono a7.1
   replace bX:=bX.mono a7.1
   replace d7:=d7.mono a7.1
   replace dH:=dH.mono a7.1
   replace hext:=hext.t a7
   replace hS:St w0 [arr 149 14 api_Echo.cells b1 a8.length b5 a8,blk aC 38 p0.Sweep.Site.ar,blk b8 49 (p0.ax ad1 cap2 ad4 cap5),fz w0 ν645] w:=hS
   have eR:=ArrM.of_arr g8
   have eX:All2 (Rp22 ν645) ([[sv cD c3 cN],[sv cE c4 cO],[sv cF c5 cP],[sv cG c6 cQ],[sv bD aT bN],[sv bE aU bO],[sv bF aV bP],[sv bG aW bQ],[sv b2 aI b6],[sv b3 aJ b7],[sv b4 aK b9],[sv bH aN bR]]:List (List Value)) [c3,c4,c5,c6,aT,aU,aV,aW,aI,aJ,aK,aN]:=(All2.cons ⟨cD,cN,rfl,a0⟩ (All2.cons ⟨cE,cO,rfl,a1⟩ (All2.cons ⟨cF,cP,rfl,a2⟩ (All2.cons ⟨cG,cQ,rfl,a3⟩ (All2.cons ⟨bD,bN,rfl,a5⟩ (All2.cons ⟨bE,bO,rfl,a9⟩ (All2.cons ⟨bF,bP,rfl,aE⟩ (All2.cons ⟨bG,bQ,rfl,aP⟩ (All2.cons ⟨b2,b6,rfl,bX⟩ (All2.cons ⟨b3,b7,rfl,d7⟩ (All2.cons ⟨b4,b9,rfl,dH⟩ (All2.cons ⟨bH,bR,rfl,eR⟩ All2.nil))))))))))))
   refine SK.wi (Qn (e:=22) (sz:=1) (f:=fN 1) (t:=105) (len:=12) (fun dN=>[(65,sb dN 12)]) #[(0,sv cD c3 cN),(1,sv cE c4 cO),(2,sv cF c5 cP),(3,sv cG c6 cQ),(4,sv bD aT bN),(5,sv bE aU bO),(6,sv bF aV bP),(7,sv bG aW bQ),(8,sv b2 aI b6),(9,sv b3 aJ b7),(10,sv b4 aK b9),(11,sv bH aN bR)] #[sv cD c3 cN,sv cE c4 cO,sv cF c5 cP,sv cG c6 cQ,sv bD aT bN,sv bE aU bO,sv bF aV bP,sv bG aW bQ,sv b2 aI b6,sv b3 aJ b7,sv b4 aK b9,sv bH aN bR] ([[sv cD c3 cN],[sv cE c4 cO],[sv cF c5 cP],[sv cG c6 cQ],[sv bD aT bN],[sv bE aU bO],[sv bF aV bP],[sv bG aW bQ],[sv b2 aI b6],[sv b3 aJ b7],[sv b4 aK b9],[sv bH aN bR]]:List (List Value)) ([c3,c4,c5,c6,aT,aU,aV,aW,aI,aJ,aK,aN]) hF hS kr ⟨kr⟩ kr (Dg 1) rfl rfl rfl kr (fun _=>⟨kr⟩) fun dN w a hF hS=>?_)
   obtain ⟨gK,fH,h⟩:=A0 h
   refine SK.wi (rR (fun e6=>[(66,e6)]) hF (Jd F _ _ fH (B0 w) w (A4 w) (ArrQ.of_own (hS.arr (i:=0) rfl) eX Rp22.mono (FrzAt.le_mem (hS.frz (i:=4) rfl hlow)))) ?_)
   rintro e6 w a ⟨eJ,eN,rfl,hQ⟩ hF
   replace hS:=hS.madeL hQ
   refine rn 1 38 [(2,sv eJ gK eN)] hF fun a hF=>wfn rfl ?_
   refine wpIn_ret (Ab<|A2<|A7 [.tmp 2] [_] hF rfl ⟨rfl,trivial⟩ ?_)
   obtain rfl:=Ae h
   exact ⟨_,rfl,_,_,rfl,St.pick [0] (by decide) hS⟩
  ·refine qnB [(67,.bool (p0.Kind==2))] hF fun a hF=>?_
   refine A8 hF h (fun hc h=>?_) fun hc h=>?_
   ·refine esr<|qo 3 3 [(71,p0.Field.Grid.ag)] hF (oN 43 0 14 5 hS.i rfl<|A1) fun a hF=>?_
    refine SK.wi (qA 43 z43 (fun d2=>[(6,pb d2)]) hF hS fun d2 w a hF hS=>?_)
    refine SK.wi (qw 43 0 p0.Field.Grid.ar hF hS rfl fun w a hF hS=>wfn rfl ?_)
    refine Am ?_
    obtain ⟨c7,fI,h⟩:=A0 h
    obtain ⟨c8,fJ,h⟩:=A0 h
    obtain ⟨c9,fL,h⟩:=A0 h
    obtain ⟨cA,fM,h⟩:=A0 h
    obtain ⟨aX,fO,h⟩:=A0 h
    obtain ⟨aY,fP,h⟩:=A0 h
    obtain ⟨aZ,fQ,h⟩:=A0 h
    obtain ⟨b0,fR,h⟩:=A0 h
    refine Bq 25 [0,3,6,9,12,15,18,21] _ (D:=fun w=>St w0 [blk d2 43 p0.Field.Grid.ar,blk b8 49 (p0.ax ad1 cap2 ad4 cap5)] w∧FrzAt μ w) kr kr hF.size (fun w hx=>?_) (fun _ _ h=>h)
    replace hS:=hS.later hx
    refine ⟨⟨St.pick [0,1] (by decide) hS,hS.frz (i:=2) rfl hlow⟩,?_⟩
    have gP:=Frz.le_refl μ
    refine WT.s [1,2,4,5,7,8,10,11,13,14,16,17,19,20,22,23,24] [0] kr kr ?_
    refine rC 17 [(74,.string p0.Name),(77,iv p0.Time),(80,iv p0.Field.Grid.X),(83,iv p0.Field.Grid.Y),(86,iv p0.Field.Grid.Size),(89,iv p0.Field.Grid.Wide),(92,iv p0.Field.Grid.High),(96,sv ad4 p0.Field.Vals cap5)] hF (oL 9 1 1 (fun _ hd=>hd.1) rfl rfl<|oL 3 1 2 (fun _ hd=>hd.1) rfl rfl<|oL 3 0 0 (fun _ hd=>hd.1) rfl rfl<|oL 3 0 1 (fun _ hd=>hd.1) rfl rfl<|oL 3 0 2 (fun _ hd=>hd.1) rfl rfl<|oL 3 0 3 (fun _ hd=>hd.1) rfl rfl<|oL 3 0 4 (fun _ hd=>hd.1) rfl rfl<|oL 44 1 19 (fun _ hd=>hd.1) rfl rfl<|A1) fun a hF=>?_
    refine WRun.fin ?_
    refine all_cons ?_ (Aq)
    refine qR (fun e7=>[(72,e7)]) hF (At F _ _ fI (B0 w) w (A4 w)) ?_
    rintro e7 w a ⟨cH,cR,rfl,hQ⟩ hF
    replace hS:=hS.madeL hQ
    refine ⟨⟨St.pick [1,2] (by decide) hS,(hS.frz (i:=3) rfl hlow)⟩,?_⟩
    refine WT.s [] [3] kr kr ?_
    refine WRun.fin ?_
    refine all_cons ?_ (Aq)
    refine qR (fun e8=>[(72,sv cH c7 cR),(75,e8)]) hF (Qh F _ _ fJ (B0 w) w (A4 w)) ?_
    rintro e8 w a ⟨cI,cS,rfl,hQ⟩ hF
    replace hS:=hS.madeL hQ
    refine ⟨⟨St.pick [2,3] (by decide) hS,(hS.frz (i:=4) rfl hlow)⟩,?_⟩
    refine WT.s [] [6] kr kr ?_
    refine WRun.fin ?_
    refine all_cons ?_ (Aq)
    refine qR (fun e9=>[(75,sv cI c8 cS),(78,e9)]) hF (At F _ _ fL (B0 w) w (A4 w)) ?_
    rintro e9 w a ⟨cJ,cT,rfl,hQ⟩ hF
    replace hS:=hS.madeL hQ
    refine ⟨⟨St.pick [3,4] (by decide) hS,(hS.frz (i:=5) rfl hlow)⟩,?_⟩
    refine WT.s [] [9] kr kr ?_
    refine WRun.fin ?_
    refine all_cons ?_ (Aq)
    refine qR (fun eA=>[(78,sv cJ c9 cT),(81,eA)]) hF (Ho F _ _ fM (B0 w) w (A4 w)) ?_
    rintro eA w a ⟨cK,cU,rfl,hQ⟩ hF
    replace hS:=hS.madeL hQ
    refine ⟨⟨St.pick [4,5] (by decide) hS,(hS.frz (i:=6) rfl hlow)⟩,?_⟩
    refine WT.s [] [12] kr kr ?_
    refine WRun.fin ?_
    refine all_cons ?_ (Aq)
    refine qR (fun eB=>[(81,sv cK cA cU),(84,eB)]) hF (Ho F _ _ fO (B0 w) w (A4 w)) ?_
    rintro eB w a ⟨bI,bS,rfl,hQ⟩ hF
    replace hS:=hS.madeL hQ
    refine ⟨⟨St.pick [5,6] (by decide) hS,(hS.frz (i:=7) rfl hlow)⟩,?_⟩
    refine WT.s [] [15] kr kr ?_
    refine WRun.fin ?_
    refine all_cons ?_ (Aq)
    refine qR (fun eC=>[(84,sv bI aX bS),(87,eC)]) hF (At F _ _ fP (B0 w) w (A4 w)) ?_
    rintro eC w a ⟨bJ,bT,rfl,hQ⟩ hF
    replace hS:=hS.madeL hQ
    refine ⟨⟨St.pick [6,7] (by decide) hS,(hS.frz (i:=8) rfl hlow)⟩,?_⟩
    refine WT.s [] [18] kr kr ?_
    refine WRun.fin ?_
    refine all_cons ?_ (Aq)
    refine qR (fun eD=>[(87,sv bJ aY bT),(90,eD)]) hF (At F _ _ fQ (B0 w) w (A4 w)) ?_
    rintro eD w a ⟨bK,bU,rfl,hQ⟩ hF
    replace hS:=hS.madeL hQ
    refine ⟨⟨St.pick [7,8] (by decide) hS,(hS.frz (i:=9) rfl hlow)⟩,?_⟩
    refine WT.s [] [21] kr kr ?_
    refine WRun.fin ?_
    refine all_cons ?_ (Aq)
    refine qR (fun eE=>[(90,sv bK aZ bU),(93,eE)]) hF (At F _ _ fR (B0 w) w (A4 w)) ?_
    rintro eE w a ⟨bL,bV,rfl,hQ⟩ hF
    replace hS:=hS.madeL hQ
    refine ⟨⟨St.pick [8,9] (by decide) hS,(hS.frz (i:=10) rfl hlow)⟩,?_⟩
    refine WT.z [] kr ?_
    refine WRun.fin ?_
    obtain ⟨aO,fS,h⟩:=A0 h
    refine SK.wi (qR (fun eF=>[(93,sv bL b0 bV),(97,eF)]) hF (Vm F _ _ fS (B0 w) w (A4 w) (hA7.mono (FrzAt.le_mem (hS.frz (i:=10) rfl hlow)))) ?_)
    rintro eF w a ⟨bM,bW,rfl,hQ⟩ hF
    replace hS:=hS.madeL hQ
    obtain ⟨ν784,dL,hlow,hS,g9⟩:=hS.freeze (i:=11) (j:=8) rfl rfl (by decide) hlow
    replace hA6:=hA6.mono Rp87.mono dL.1
    replace hA7:=hA7.mono dL.1
    replace hext:=hext.t dL
    have a4:=ArrM.of_arr g9
    obtain ⟨ν788,dE,hlow,hS,gA⟩:=hS.freeze (i:=10) (j:=7) rfl rfl (by decide) hlow
    replace hA6:=hA6.mono Rp87.mono dE.1
    replace hA7:=hA7.mono dE.1
    replace a4:=a4.mono dE.1
    replace hext:=hext.t dE
    have a6:=ArrM.of_arr gA
    obtain ⟨ν792,dB,hlow,hS,gB⟩:=hS.freeze (i:=9) (j:=6) rfl rfl (by decide) hlow
    replace hA6:=hA6.mono Rp87.mono dB.1
    replace hA7:=hA7.mono dB.1
    replace a4:=a4.mono dB.1
    replace a6:=a6.mono dB.1
    replace hext:=hext.t dB
    have aA:=ArrM.of_arr gB
    obtain ⟨ν796,cW,hlow,hS,gC⟩:=hS.freeze (i:=8) (j:=5) rfl rfl (by decide) hlow
    replace hA6:=hA6.mono Rp87.mono cW.1
    replace hA7:=hA7.mono cW.1
    replace a4:=a4.mono cW.1
    replace a6:=a6.mono cW.1
    replace aA:=aA.mono cW.1
    replace hext:=hext.t cW
    replace hS:St w0 [arr 5 1 (fK .u8) bM aO.length bW aO,arr 5 1 (fK .u8) bL b0.length bV b0,arr 5 1 (fK .u8) bK aZ.length bU aZ,arr 5 1 (fK .u8) bJ aY.length bT aY,arr 5 1 (fK .u8) bI aX.length bS aX,blk d2 43 p0.Field.Grid.ar,blk b8 49 (p0.ax ad1 cap2 ad4 cap5),fz w0 ν796] w:=hS
    have aF:=ArrM.of_arr gC
    obtain ⟨ν800,c0,hlow,hS,gD⟩:=hS.freeze (i:=7) (j:=4) rfl rfl (by decide) hlow
    replace hA6:=hA6.mono Rp87.mono c0.1
    replace hA7:=hA7.mono c0.1
    replace a4:=a4.mono c0.1
    replace a6:=a6.mono c0.1
    replace aA:=aA.mono c0.1
    replace aF:=aF.mono c0.1
    replace hext:=hext.t c0
    have aQ:=ArrM.of_arr gD
    obtain ⟨ν804,bB,hlow,hS,gE⟩:=hS.freeze (i:=6) (j:=3) rfl rfl (by decide) hlow
    replace hA6:=hA6.mono Rp87.mono bB.1
    replace hA7:=hA7.mono bB.1
    replace a4:=a4.mono bB.1
    replace a6:=a6.mono bB.1
    replace aA:=aA.mono bB.1
    replace aF:=aF.mono bB.1
    replace aQ:=aQ.mono bB.1
    replace hext:=hext.t bB
    have bY:=ArrM.of_arr gE
    obtain ⟨ν808,aS,hlow,hS,gF⟩:=hS.freeze (i:=5) (j:=2) rfl rfl (by decide) hlow
    replace hA6:=hA6.mono Rp87.mono aS.1
    replace hA7:=hA7.mono aS.1
    replace a4:=a4.mono aS.1
    replace a6:=a6.mono aS.1
    replace aA:=aA.mono aS.1
    replace aF:=aF.mono aS.1
    replace aQ:=aQ.mono aS.1
    replace bY:=bY.mono aS.1
    replace hext:=hext.t aS
    have d8:=ArrM.of_arr gF
    obtain ⟨ν812,aM,hlow,hS,gG⟩:=hS.freeze (i:=4) (j:=1) rfl rfl (by decide) hlow
    replace hA6:=hA6.mono Rp87.mono aM.1
    replace hA7:=hA7.mono aM.1
    replace a4:=a4.mono aM.1
    replace a6:=a6.mono aM.1
    replace aA:=aA.mono aM.1
    replace aF:=aF.mono aM.1
    replace aQ:=aQ.mono aM.1
    replace bY:=bY.mono aM.1
    replace d8:=d8.mono aM.1
    replace hext:=hext.t aM
    replace hS:St w0 [arr 5 1 (fK .u8) bM aO.length bW aO,blk d2 43 p0.Field.Grid.ar,blk b8 49 (p0.ax ad1 cap2 ad4 cap5),fz w0 ν812] w:=hS
    have dI:=ArrM.of_arr gG
    obtain ⟨ν816,aH,hlow,hS,gH⟩:=hS.freeze (i:=3) (j:=0) rfl rfl (by decide) hlow
    replace hA6:=hA6.mono Rp87.mono aH.1
    replace hA7:=hA7.mono aH.1
    replace a4:=a4.mono aH.1
    replace a6:=a6.mono aH.1
    replace aA:=aA.mono aH.1
    replace aF:=aF.mono aH.1
    replace aQ:=aQ.mono aH.1
    replace bY:=bY.mono aH.1
    replace d8:=d8.mono aH.1
    replace dI:=dI.mono aH.1
    replace hext:=hext.t aH
    have eT:=ArrM.of_arr gH
    have eY:All2 (Rp22 ν816) ([[sv cH c7 cR],[sv cI c8 cS],[sv cJ c9 cT],[sv cK cA cU],[sv bI aX bS],[sv bJ aY bT],[sv bK aZ bU],[sv bL b0 bV],[sv bM aO bW]]:List (List Value)) [c7,c8,c9,cA,aX,aY,aZ,b0,aO]:=(All2.cons ⟨cH,cR,rfl,a4⟩ (All2.cons ⟨cI,cS,rfl,a6⟩ (All2.cons ⟨cJ,cT,rfl,aA⟩ (All2.cons ⟨cK,cU,rfl,aF⟩ (All2.cons ⟨bI,bS,rfl,aQ⟩ (All2.cons ⟨bJ,bT,rfl,bY⟩ (All2.cons ⟨bK,bU,rfl,d8⟩ (All2.cons ⟨bL,bV,rfl,dI⟩ (All2.cons ⟨bM,bW,rfl,eT⟩ All2.nil)))))))))
    refine SK.wi (Qn (e:=22) (sz:=1) (f:=fN 1) (t:=105) (len:=9) (fun dO=>[(98,sb dO 9)]) #[(0,sv cH c7 cR),(1,sv cI c8 cS),(2,sv cJ c9 cT),(3,sv cK cA cU),(4,sv bI aX bS),(5,sv bJ aY bT),(6,sv bK aZ bU),(7,sv bL b0 bV),(8,sv bM aO bW)] #[sv cH c7 cR,sv cI c8 cS,sv cJ c9 cT,sv cK cA cU,sv bI aX bS,sv bJ aY bT,sv bK aZ bU,sv bL b0 bV,sv bM aO bW] ([[sv cH c7 cR],[sv cI c8 cS],[sv cJ c9 cT],[sv cK cA cU],[sv bI aX bS],[sv bJ aY bT],[sv bK aZ bU],[sv bL b0 bV],[sv bM aO bW]]:List (List Value)) ([c7,c8,c9,cA,aX,aY,aZ,b0,aO]) hF hS kr ⟨kr⟩ kr (Dg 1) rfl rfl rfl kr (fun _=>⟨kr⟩) fun dO w a hF hS=>?_)
    obtain ⟨gL,fT,h⟩:=A0 h
    refine SK.wi (rR (fun eG=>[(99,eG)]) hF (Jd F _ _ fT (B0 w) w (A4 w) (ArrQ.of_own (hS.arr (i:=0) rfl) eY Rp22.mono (FrzAt.le_mem (hS.frz (i:=3) rfl hlow)))) ?_)
    rintro eG w a ⟨eL,eP,rfl,hQ⟩ hF
    replace hS:=hS.madeL hQ
    refine rn 1 29 [(2,sv eL gL eP)] hF fun a hF=>wfn rfl ?_
    refine wpIn_ret (Ab<|A2<|A7 [.tmp 2] [_] hF rfl ⟨rfl,trivial⟩ ?_)
    obtain rfl:=Ae h
    exact ⟨_,rfl,_,_,rfl,St.pick [0] (by decide) hS⟩
   ·refine wpIn_skip (A9<|A3<|?_)
    exact ⟨hF.sub kr,St.pick [0,1] (by decide) hS,h⟩
 rintro a w ⟨hF,hS,h⟩
 rw [Ki] at h
 refine Am ?_
 obtain ⟨c1,f1,h⟩:=A0 h
 obtain ⟨c2,f2,h⟩:=A0 h
 refine Bq 6 [0,3] _ (D:=fun w=>St w0 [blk b8 49 (p0.ax ad1 cap2 ad4 cap5)] w∧FrzAt μ w) kr kr hF.size (fun w hx=>?_) (fun _ _ h=>h)
 replace hS:=hS.later hx
 refine ⟨⟨St.pick [0] (by decide) hS,hS.frz (i:=1) rfl hlow⟩,?_⟩
 have gN:=Frz.le_refl μ
 refine WT.s [1,2,4,5] [0] kr kr ?_
 refine rC 4 [(102,iv p0.Time),(105,.string p0.Text)] hF (oL 3 0 2 (fun _ hd=>hd.1) rfl rfl<|oL 9 0 20 (fun _ hd=>hd.1) rfl rfl<|A1) fun a hF=>?_
 refine WRun.fin ?_
 refine all_cons ?_ (Aq)
 refine qR (fun dQ=>[(100,dQ)]) hF (At F _ _ f1 (B0 w) w (A4 w)) ?_
 rintro dQ w a ⟨cB,cL,rfl,hQ⟩ hF
 replace hS:=hS.madeL hQ
 refine ⟨⟨St.pick [1] (by decide) hS,(hS.frz (i:=2) rfl hlow)⟩,?_⟩
 refine WT.s [] [3] kr kr ?_
 refine WRun.fin ?_
 refine all_cons ?_ (Aq)
 refine qR (fun dR=>[(100,sv cB c1 cL),(103,dR)]) hF (At F _ _ f2 (B0 w) w (A4 w)) ?_
 rintro dR w a ⟨cC,cM,rfl,hQ⟩ hF
 replace hS:=hS.madeL hQ
 refine ⟨⟨St.pick [2] (by decide) hS,(hS.frz (i:=3) rfl hlow)⟩,?_⟩
 refine WT.z [] kr ?_
 refine WRun.fin ?_
 obtain ⟨cY,f3,h⟩:=A0 h
 refine SK.wi (qR (fun dS=>[(103,sv cC c2 cM),(106,dS)]) hF (Qh F _ _ f3 (B0 w) w (A4 w)) ?_)
 rintro dS w a ⟨cZ,d3,rfl,hQ⟩ hF
 replace hS:=hS.madeL hQ
 obtain ⟨ν421,dJ,hlow,hS,fU⟩:=hS.freeze (i:=4) (j:=2) rfl rfl (by decide) hlow
 replace hA6:=hA6.mono Rp87.mono dJ.1
 replace hA7:=hA7.mono dJ.1
 replace hext:=hext.t dJ
 have d6:=ArrM.of_arr fU
 obtain ⟨ν425,dC,hlow,hS,fV⟩:=hS.freeze (i:=3) (j:=1) rfl rfl (by decide) hlow
 replace hA6:=hA6.mono Rp87.mono dC.1
 replace hA7:=hA7.mono dC.1
 replace d6:=d6.mono dC.1
 replace hext:=hext.t dC
 have dG:=ArrM.of_arr fV
 obtain ⟨ν429,d9,hlow,hS,fW⟩:=hS.freeze (i:=2) (j:=0) rfl rfl (by decide) hlow
 replace hA6:=hA6.mono Rp87.mono d9.1
 replace hA7:=hA7.mono d9.1
 replace d6:=d6.mono d9.1
 replace dG:=dG.mono d9.1
 replace hext:=hext.t d9
 have eQ:=ArrM.of_arr fW
 have eW:All2 (Rp22 ν429) ([[sv cB c1 cL],[sv cC c2 cM],[sv cZ cY d3]]:List (List Value)) [c1,c2,cY]:=(All2.cons ⟨cB,cL,rfl,d6⟩ (All2.cons ⟨cC,cM,rfl,dG⟩ (All2.cons ⟨cZ,d3,rfl,eQ⟩ All2.nil)))
 refine SK.wi (Qn (e:=22) (sz:=1) (f:=fN 1) (t:=105) (len:=3) (fun dM=>[(107,sb dM 3)]) #[(0,sv cB c1 cL),(1,sv cC c2 cM),(2,sv cZ cY d3)] #[sv cB c1 cL,sv cC c2 cM,sv cZ cY d3] ([[sv cB c1 cL],[sv cC c2 cM],[sv cZ cY d3]]:List (List Value)) ([c1,c2,cY]) hF hS kr ⟨kr⟩ kr (Dg 1) rfl rfl rfl kr (fun _=>⟨kr⟩) fun dM w a hF hS=>?_)
 obtain ⟨gJ,f4,h⟩:=A0 h
 refine SK.wi (rR (fun dT=>[(108,dT)]) hF (Jd F _ _ f4 (B0 w) w (A4 w) (ArrQ.of_own (hS.arr (i:=0) rfl) eW Rp22.mono (FrzAt.le_mem (hS.frz (i:=2) rfl hlow)))) ?_)
 rintro dT w a ⟨eI,eM,rfl,hQ⟩ hF
 replace hS:=hS.madeL hQ
 refine rn 1 10 [(2,sv eI gJ eM)] hF fun a hF=>wfn rfl ?_
 refine wpIn_ret (A7 [.tmp 2] [_] hF rfl ⟨rfl,trivial⟩ ?_)
 obtain rfl:=Ae h
 exact ⟨_,rfl,_,_,rfl,St.pick [0] (by decide) hS⟩
end Go.Proofs.YtifbomimeodibaaGreat
