import Derived.Test.YtifbomimeodibaaGreatV5XD
import Derived.Test.YtifbomimeodibaaGreatProg
import Derived.Test.YtifbomimeodibaaGreatV5XW1
import Derived.Test.YtifbomimeodibaaGreatV5XW5
import Derived.Test.YtifbomimeodibaaGreatV5XW8
import Derived.Test.YtifbomimeodibaaGreatV5XW10
import Derived.Test.YtifbomimeodibaaGreatV5XW12
namespace Go.Proofs.YtifbomimeodibaaGreat
open Go Go.RowKit Go.Eng
set_option maxRecDepth 10000
set_option maxHeartbeats 4000000
set_option linter.unusedVariables false
set_option linter.unusedSimpArgs false
theorem W5 (F:Nat) (p0:(List Int)) (res:(ref12_Item×Bool)) (h:M0 F p0=some res) (μ:Frz) (w0:World) (hm:FrzAt μ w0) {ad1:Option Addr} {cap2:Nat} (hA3:ArrM μ 1 (fK .u8) ad1 cap2 p0):Ba Tryz.prog 75 #[sv ad1 p0 cap2] w0 (fun e w=>∃(ν_:Frz) (dD:Option Addr) (dG:Nat) (eI:List (List Value)) (dE:Option Addr) (dH:Nat),μ.ext w0.heap.size ν_∧e=(.tuple #[.agg (res.1.ax dD dG dE dH),.bool res.2])∧ArrQ ν_ 1 Rp87 dD dG eI res.1.Sweep.Rays∧ArrM ν_ 2 api_Span.cells dE dH res.1.Field.Vals∧St w0 [fz w0 ν_] w):=by
 obtain ⟨hlow,hS⟩:=hm.init
 have hext:=Frz.ext_refl w0.heap.size μ
 rw [M0] at h
 refine feW Tryz.func75 161 [(0,sv ad1 p0 cap2)] hS fun a w hF hS=>?_
 refine esr<|SK.wi (qA 49 z48 (fun b4=>[(2,pb b4)]) hF hS fun b4 w a hF hS=>?_)
 refine qn 1 2 [] hF fun a hF=>wfn rfl ?_
 refine esr<|qn 2 2 [(11,.agg #[sv ad1 p0 cap2,.bool false])] hF fun a hF=>?_
 refine SK.wi (qBa 135 #[sv ad1 p0 cap2,.bool false] (fun b5=>[(12,pb b5)]) hF hS fun b5 w a hF hS=>?_)
 refine qn 1 4 [(4,pb b5)] hF fun a hF=>wfn rfl ?_
 refine esr<|qn 1 1 [(13,pb b5)] hF fun a hF=>?_
 obtain ⟨y6,hy6,h⟩:=A0 h
 replace hS:=hS.s2
 refine SK.wi (qR (fun v9=>[(14,v9)]) hF (Aj F _ _ hy6 μ w0 w _ hlow hA3 hS) ?_)
 rintro v9 w a ⟨ν7,eC,eF,hx8,hlow,rfl,a0,hS⟩ hF
 replace hext:=hext.t hx8
 replace hA3:=hA3.mono hx8.1
 refine qn 1 3 [(15,.agg #[iv y6.1,.string ByteArray.empty,iv 0,.string ByteArray.empty,iv 0,iv 0,iv 0,iv 0,iv 0,iv 0,iv 0,iv 0,iv 0,.slice none 0 0,iv 0,iv 0,iv 0,iv 0,iv 0,.slice none 0 0,.string ByteArray.empty])] hF fun a hF=>?_
 refine SK.wi (qA 49 z48 (fun a3=>[(5,pb a3)]) hF hS fun a3 w a hF hS=>?_)
 refine SK.wi (qw 49 0 #[iv y6.1,.string ByteArray.empty,iv 0,.string ByteArray.empty,iv 0,iv 0,iv 0,iv 0,iv 0,iv 0,iv 0,iv 0,iv 0,.slice none 0 0,iv 0,iv 0,iv 0,iv 0,iv 0,.slice none 0 0,.string ByteArray.empty] hF hS rfl fun w a hF hS=>wfn rfl ?_)
 have a1:=Frz.le_refl ν7
 refine Dx (fun a w=>∃(b0:ByteArray) (b3:Int) (b6:Int) (b7:Int) (aQ:(List (List api_Echo))) (b8:Int) (b9:Int) (bA:Int) (bB:Int) (bC:Int) (aX:(List api_Span)) (bD:Int) (b1:ByteArray) (b2:ByteArray) (bE:Int) (bF:Int) (bG:Int) (bH:Int) (bI:Int) (bJ:Int) (cB:(List Int)) (cF:Bool) (ν284:Frz) (bK:Option Addr) (bN:Nat) (cV:List (List Value)) (bL:Option Addr) (bO:Nat) (d2:Option Addr) (d4:Nat),Fr 161 [] [(2,pb b4),(4,pb b5),(5,pb a3)] a∧St w0 [arr 87 1 (fN 1) bK aQ.length bN cV,fz w0 ν284,blk b5 135 #[sv d2 cB d4,.bool cF],blk a3 49 #[iv y6.1,.string b0,iv bD,.string b2,iv bE,iv bF,iv bG,iv bH,iv bI,iv bJ,iv b3,iv b6,iv b7,sv bK aQ bN,iv b8,iv b9,iv bA,iv bB,iv bC,sv bL aX bO,.string b1],blk b4 49 z48] w∧(All2 (Rp87 ν284) cV aQ)∧(ArrM ν284 2 api_Span.cells bL bO aX)∧(ArrM ν284 1 (fK .u8) d2 d4 cB)∧(ν7.le ν284)∧(μ.ext w0.heap.size ν284)∧(Ax w0 ν284)∧Db F y6 b0 b3 b6 b7 aQ b8 b9 bA bB bC aX bD b1 b2 bE bF bG bH bI bJ cB cF=some res) ?_ ?_
 ·skip
  refine qoB [(17,iv y6.1)] hF (oL 3 0 0 hS.i rfl rfl<|A1) fun a hF=>?_
  refine wpIn_block<|qnB [(18,.bool (y6.1==1))] hF fun a hF=>?_
  refine A8 hF h (fun hc h=>?_) fun hc h=>?_
  ·refine esr<|qn 1 1 [(20,pb b5)] hF fun a hF=>?_
   obtain ⟨aB,eZ,h⟩:=A0 h
   replace hS:=hS.s2.s2
   refine SK.wi (qR (fun dO=>[(21,dO)]) hF (Jt F _ _ eZ ν7 w0 w _ hlow a0 hS) ?_)
   rintro dO w a ⟨ν327,fT,gB,cX,hlow,rfl,a5,hS⟩ hF
   replace hext:=hext.t cX
   replace hA3:=hA3.mono cX.1
   replace a0:=a0.mono cX.1
   replace a1:=a1.t cX.1
   refine qn 1 3 [(22,.agg #[.string aB.1,iv 0,iv 0,iv 0,iv 0,iv 0,iv 0,iv 0])] hF fun a hF=>?_
   refine SK.wi (qA 38 z38 (fun a9=>[(6,pb a9)]) hF hS fun a9 w a hF hS=>?_)
   refine SK.wi (qw 38 0 #[.string aB.1,iv 0,iv 0,iv 0,iv 0,iv 0,iv 0,iv 0] hF hS rfl fun w a hF hS=>wfn rfl ?_)
   refine esr<|qn 1 1 [(23,pb b5)] hF fun a hF=>?_
   obtain ⟨aC,f0,h⟩:=A0 h
   replace hS:=hS.s2.s2
   refine SK.wi (qR (fun dP=>[(24,dP)]) hF (Eb F _ _ f0 ν327 w0 w _ hlow a5 hS) ?_)
   rintro dP w a ⟨ν335,fU,gC,cN,hlow,rfl,a6,hS⟩ hF
   replace hext:=hext.t cN
   replace hA3:=hA3.mono cN.1
   replace a0:=a0.mono cN.1
   replace a5:=a5.mono cN.1
   replace a1:=a1.t cN.1
   refine qn 1 3 [(24,iv aC.1),(25,.pointer (some ⟨a9,1,none⟩))] hF fun a hF=>?_
   refine SK.wi (qs 3 2 1 (iv aC.1) hF hS rfl fun w a hF hS=>wfn rfl ?_)
   refine esr<|qn 1 1 [(26,pb b5)] hF fun a hF=>?_
   obtain ⟨aD,f1,h⟩:=A0 h
   refine SK.wi (qR (fun dQ=>[(27,dQ)]) hF (Eb F _ _ f1 ν335 w0 w _ hlow a6 hS) ?_)
   rintro dQ w a ⟨ν342,fV,gD,cC,hlow,rfl,aA,hS⟩ hF
   replace hext:=hext.t cC
   replace hA3:=hA3.mono cC.1
   replace a0:=a0.mono cC.1
   replace a5:=a5.mono cC.1
   replace a6:=a6.mono cC.1
   replace a1:=a1.t cC.1
   refine qn 1 3 [(27,iv aD.1),(28,.pointer (some ⟨a9,2,none⟩))] hF fun a hF=>?_
   refine SK.wi (qs 3 2 2 (iv aD.1) hF hS rfl fun w a hF hS=>wfn rfl ?_)
   refine esr<|qn 1 1 [(29,pb b5)] hF fun a hF=>?_
   obtain ⟨aE,f2,h⟩:=A0 h
   refine SK.wi (qR (fun dR=>[(30,dR)]) hF (Aj F _ _ f2 ν342 w0 w _ hlow aA hS) ?_)
   rintro dR w a ⟨ν349,fW,gE,c9,hlow,rfl,aJ,hS⟩ hF
   replace hext:=hext.t c9
   replace hA3:=hA3.mono c9.1
   replace a0:=a0.mono c9.1
   replace a5:=a5.mono c9.1
   replace a6:=a6.mono c9.1
   replace aA:=aA.mono c9.1
   replace a1:=a1.t c9.1
   refine qn 1 3 [(30,iv aE.1),(31,.pointer (some ⟨a9,3,none⟩))] hF fun a hF=>?_
   refine SK.wi (qs 3 2 3 (iv aE.1) hF hS rfl fun w a hF hS=>wfn rfl ?_)
   refine esr<|qn 1 1 [(32,pb b5)] hF fun a hF=>?_
   obtain ⟨aF,f3,h⟩:=A0 h
   refine SK.wi (qR (fun dS=>[(33,dS)]) hF (Aj F _ _ f3 ν349 w0 w _ hlow aJ hS) ?_)
   rintro dS w a ⟨ν356,fX,gF,c4,hlow,rfl,aM,hS⟩ hF
   replace hext:=hext.t c4
   replace hA3:=hA3.mono c4.1
   replace a0:=a0.mono c4.1
   replace a5:=a5.mono c4.1
   replace a6:=a6.mono c4.1
   replace aA:=aA.mono c4.1
   replace aJ:=aJ.mono c4.1
   replace a1:=a1.t c4.1
   refine qn 1 3 [(33,iv aF.1),(34,.pointer (some ⟨a9,4,none⟩))] hF fun a hF=>?_
   refine SK.wi (qs 3 2 4 (iv aF.1) hF hS rfl fun w a hF hS=>wfn rfl ?_)
   refine esr<|qn 1 1 [(35,pb b5)] hF fun a hF=>?_
   obtain ⟨aG,f4,h⟩:=A0 h
   refine SK.wi (qR (fun dT=>[(36,dT)]) hF (Aj F _ _ f4 ν356 w0 w _ hlow aM hS) ?_)
   rintro dT w a ⟨ν363,fY,gG,bT,hlow,rfl,aU,hS⟩ hF
   replace hext:=hext.t bT
   replace hA3:=hA3.mono bT.1
   replace a0:=a0.mono bT.1
   replace a5:=a5.mono bT.1
   replace a6:=a6.mono bT.1
   replace aA:=aA.mono bT.1
   replace aJ:=aJ.mono bT.1
   replace aM:=aM.mono bT.1
   replace a1:=a1.t bT.1
   refine qn 1 3 [(36,iv aG.1),(37,.pointer (some ⟨a9,5,none⟩))] hF fun a hF=>?_
   refine SK.wi (qs 3 2 5 (iv aG.1) hF hS rfl fun w a hF hS=>wfn rfl ?_)
   refine esr<|qn 1 1 [(38,pb b5)] hF fun a hF=>?_
   obtain ⟨aH,f5,h⟩:=A0 h
   refine SK.wi (qR (fun dU=>[(39,dU)]) hF (Aj F _ _ f5 ν363 w0 w _ hlow aU hS) ?_)
   rintro dU w a ⟨ν370,fZ,gH,aY,hlow,rfl,bR,hS⟩ hF
   replace hext:=hext.t aY
   replace hA3:=hA3.mono aY.1
   replace a0:=a0.mono aY.1
   replace a5:=a5.mono aY.1
   replace a6:=a6.mono aY.1
   replace aA:=aA.mono aY.1
   replace aJ:=aJ.mono aY.1
   replace aM:=aM.mono aY.1
   replace aU:=aU.mono aY.1
   replace a1:=a1.t aY.1
   refine qn 1 3 [(39,iv aH.1),(40,.pointer (some ⟨a9,6,none⟩))] hF fun a hF=>?_
   refine SK.wi (qs 3 2 6 (iv aH.1) hF hS rfl fun w a hF hS=>wfn rfl ?_)
   refine esr<|qn 1 1 [(41,pb b5)] hF fun a hF=>?_
   obtain ⟨aI,f6,h⟩:=A0 h
   refine SK.wi (rR (fun dV=>[(2,pb b4),(4,pb b5),(5,pb a3),(6,pb a9),(42,dV)]) hF (Aj F _ _ f6 ν370 w0 w _ hlow bR hS) ?_)
   rintro dV w a ⟨ν377,g0,gI,aW,hlow,rfl,c6,hS⟩ hF
   replace hext:=hext.t aW
   replace hA3:=hA3.mono aW.1
   replace a0:=a0.mono aW.1
   replace a5:=a5.mono aW.1
   replace a6:=a6.mono aW.1
   replace aA:=aA.mono aW.1
   replace aJ:=aJ.mono aW.1
   replace aM:=aM.mono aW.1
   replace aU:=aU.mono aW.1
   replace bR:=bR.mono aW.1
   replace a1:=a1.t aW.1
   refine qn 1 3 [(42,iv aI.1),(43,.pointer (some ⟨a9,7,none⟩))] hF fun a hF=>?_
   refine SK.wi (qs 3 2 7 (iv aI.1) hF hS rfl fun w a hF hS=>wfn rfl ?_)
   refine Am ?_
   obtain ⟨bW,f7,h⟩:=A0 h
   refine Bq 5 [2] _ (D:=fun w=>St w0 [blk a9 38 #[.string aB.1,iv aC.1,iv aD.1,iv aE.1,iv aF.1,iv aG.1,iv aH.1,iv aI.1],blk a3 49 #[iv y6.1,.string ByteArray.empty,iv 0,.string ByteArray.empty,iv 0,iv 0,iv 0,iv 0,iv 0,iv 0,iv 0,iv 0,iv 0,.slice none 0 0,iv 0,iv 0,iv 0,iv 0,iv 0,.slice none 0 0,.string ByteArray.empty],blk b4 49 z48] w∧FrzAt ν377 w) kr kr hF.size (fun w hx=>?_) (fun _ _ h=>h)
   replace hS:=hS.later hx
   refine ⟨⟨St.pick [2,3,4] (by decide) hS,hS.frz (i:=0) rfl hlow⟩,?_⟩
   have d9:=Frz.le_refl ν377
   refine WT.s [0,1] [2] kr kr ?_
   refine qC 2 [(44,.agg #[.string aB.1,iv aC.1,iv aD.1,iv aE.1,iv aF.1,iv aG.1,iv aH.1,iv aI.1]),(45,pb b5)] hF (oN 38 0 0 8 (fun _ hd=>hd.1) rfl<|A1) fun a hF=>?_
   refine WRun.fin ?_
   refine all_cons ?_ (Aq)
   refine qR (fun dW=>[(46,dW)]) hF (Aj F _ _ f7 ν377 w0 w _ hlow c6 hS) ?_
   rintro dW w a ⟨ν397,g1,gJ,aO,hlow,rfl,cI,hS⟩ hF
   replace hext:=hext.t aO
   replace hA3:=hA3.mono aO.1
   replace a0:=a0.mono aO.1
   replace a5:=a5.mono aO.1
   replace a6:=a6.mono aO.1
   replace aA:=aA.mono aO.1
   replace aJ:=aJ.mono aO.1
   replace aM:=aM.mono aO.1
   replace aU:=aU.mono aO.1
   replace bR:=bR.mono aO.1
   replace c6:=c6.mono aO.1
   replace a1:=a1.t aO.1
   replace d9:=d9.t aO.1
   refine ⟨⟨St.pick [2,3,4] (by decide) hS,(hS.frz (i:=0) rfl hlow).low d9⟩,?_⟩
   refine WT.z [3,4] kr ?_
   refine qC 2 [(47,.agg #[.string aB.1,iv aC.1,iv aD.1,iv aE.1,iv aF.1,iv aG.1,iv aH.1,iv aI.1,iv bW.1,iv 0,.slice none 0 0]),(48,.pointer (some ⟨a3,3,none⟩))] hF A1 fun a hF=>?_
   refine WRun.fin ?_
   refine SK.wi (qm 41 3 3 [.string aB.1,iv aC.1,iv aD.1,iv aE.1,iv aF.1,iv aG.1,iv aH.1,iv aI.1,iv bW.1,iv 0,.slice none 0 0] hF hS rfl fun w a hF hS=>wfn rfl ?_)
   refine esr<|qn 1 1 [(49,pb b5)] hF fun a hF=>?_
   obtain ⟨bX,f8,h⟩:=A0 h
   refine SK.wi (qR (fun dX=>[(50,dX)]) hF (Aj F _ _ f8 ν397 w0 w _ hlow cI hS) ?_)
   rintro dX w a ⟨ν404,g2,gK,aP,hlow,rfl,d6,hS⟩ hF
   replace hext:=hext.t aP
   replace hA3:=hA3.mono aP.1
   replace a0:=a0.mono aP.1
   replace a5:=a5.mono aP.1
   replace a6:=a6.mono aP.1
   replace aA:=aA.mono aP.1
   replace aJ:=aJ.mono aP.1
   replace aM:=aM.mono aP.1
   replace aU:=aU.mono aP.1
   replace bR:=bR.mono aP.1
   replace c6:=c6.mono aP.1
   replace cI:=cI.mono aP.1
   replace a1:=a1.t aP.1
   refine qn 2 4 [(50,iv bX.1),(52,.pointer (some ⟨a3,12,none⟩))] hF fun a hF=>?_
   refine SK.wi (qs 3 3 12 (iv bX.1) hF hS rfl fun w a hF hS=>wfn rfl ?_)
   refine Am<|esr ?_
   obtain ⟨fS,f9,h⟩:=A0 h
   refine qx 3 3 [(55,.bool (fS != 0))] hF (oN 38 2 0 8 hS.e rfl<|oC (fun w2 hd=>Np F (api_Site.mk aB.1 aC.1 aD.1 aE.1 aF.1 aG.1 aH.1 aI.1) _ f9 _ w2 (A4 w2))<|A1) fun a w hF hx=>?_
   replace hS:=hS.later hx
   refine wfn rfl ?_
   refine A8 hF h (fun hc h=>?_) fun hc h=>?_
   ·refine esr<|qn 1 1 [(56,.agg z48)] hF fun a hF=>?_
    refine SK.wi (qw 49 4 z48 hF hS rfl fun w a hF hS=>?_)
    refine qn 1 3 [(3,.bool false)] hF fun a hF=>wfn rfl ?_
    refine wpIn_ret (A2<|Ab<|A2<|A7 [.cell 2 49,.tmp 3] [_,_] hF rfl ⟨⟨_,rfl,Ea (cs:=[iv 0,.string ByteArray.empty,iv 0,.string ByteArray.empty,iv 0,iv 0,iv 0,iv 0,iv 0,iv 0,iv 0,iv 0,iv 0,.slice none 0 0,iv 0,iv 0,iv 0,iv 0,iv 0,.slice none 0 0,.string ByteArray.empty]) kr ((hS.blk (i:=4) rfl).cells rfl)⟩,rfl,trivial⟩ ?_)
    obtain rfl:=Ae h
    exact ⟨_,rfl,ν404,none,0,[],none,0,hext,rfl,ArrQ.nil,ArrM.nil,St.pick [0] (by decide) hS⟩
   ·refine wK<|esr ?_
    obtain ⟨gU,eP,h⟩:=A0 h
    obtain ⟨fO,eQ,h⟩:=A0 h
    refine qo 7 7 [(57,pb b5),(63,iv fO)] hF (oL 3 2 4 hS.i rfl rfl<|oM 3 eP<|oL 3 2 5 hS.i rfl rfl<|oM 3 eQ<|A1) fun a hF=>?_
    obtain ⟨a7,fA,h⟩:=A0 h
    refine SK.wi (qR (fun dY=>[(64,dY)]) hF (Po F _ _ _ fA ν404 w0 w _ hlow d6 hS) ?_)
    rintro dY w a ⟨ν414,a8,a2,cT,cU,aL,hlow,rfl,dJ,dK,hS⟩ hF
    replace hext:=hext.t aL
    replace hA3:=hA3.mono aL.1
    replace a0:=a0.mono aL.1
    replace a5:=a5.mono aL.1
    replace a6:=a6.mono aL.1
    replace aA:=aA.mono aL.1
    replace aJ:=aJ.mono aL.1
    replace aM:=aM.mono aL.1
    replace aU:=aU.mono aL.1
    replace bR:=bR.mono aL.1
    replace c6:=c6.mono aL.1
    replace cI:=cI.mono aL.1
    replace d6:=d6.mono aL.1
    replace a1:=a1.t aL.1
    refine qn 1 9 [(7,sv a8 a7.1 a2)] hF fun a hF=>wfn rfl ?_
    refine qnB [(8,iv 0)] hF fun a hF=>?_
    refine wpIn_block ?_
    replace hS:=hS.nilarr 87 1 (fN 1)
    refine Ck (fun n_ a w=>∃(aR:(List (List api_Echo))) (bV:Int) (bM:Option Addr) (bP:Nat) (bQ:List (List Value)),Fr 161 [] [(2,pb b4),(4,pb b5),(5,pb a3),(6,pb a9),(7,sv a8 a7.1 a2),(8,iv bV)] a∧St w0 [arr 87 1 (fN 1) bM aR.length bP bQ,fz w0 ν414,blk b5 135 #[sv cT a7.2.b cU,.bool a7.2.bad],blk a9 38 #[.string aB.1,iv aC.1,iv aD.1,iv aE.1,iv aF.1,iv aG.1,iv aH.1,iv aI.1],blk a3 49 #[iv y6.1,.string ByteArray.empty,iv 0,.string aB.1,iv aC.1,iv aD.1,iv aE.1,iv aF.1,iv aG.1,iv aH.1,iv aI.1,iv bW.1,iv bX.1,sv bM aR bP,iv 0,iv 0,iv 0,iv 0,iv 0,.slice none 0 0,.string ByteArray.empty],blk b4 49 z48] w∧(All2 (Rp87 ν414) bQ aR)∧Gg F y6 aB aC aD aE aF aG aH aI bW bX a7 n_ aR bV=some res) F ⟨[],0,none,0,[],hF.sub kr,St.pick [0,1,2,3,4,5] (by decide) hS,All2.nil,h⟩ ?_
    rintro nk2 a w ⟨aR,bV,bM,bP,bQ,hF,hS,dB,h⟩
    rcases nk2 with _|nk2
    ·cases (show (none:Option (ref12_Item×Bool))=some res from h)
    obtain ⟨k2,hk2⟩:∃k,k=Gg F y6 aB aC aD aE aF aG aH aI bW bX a7 nk2:=⟨_,rfl⟩
    replace h:Kj F y6 aB aC aD aE aF aG aH aI bW bX a7 k2 aR bV=some res:=by rw [hk2];exact h
    rw [Kj] at h
    refine Am<|esr ?_
    obtain ⟨e9,eR,h⟩:=A0 h
    refine qo 6 6 [(70,.bool (decide (bV<e9)))] hF (oL 3 3 4 hS.i rfl rfl<|oM 3 eR<|A1) fun a hF=>?_
    rcases Bool.eq_false_or_eq_true ((decide (bV<e9))) with cL|cL
    ·replace h:=Gx h cL
     rw [cL] at hF
     refine qo 6 12 [(76,.bool (!a7.2.bad))] hF (oGs [⟨70,true,true⟩] (oL 4 2 1 hS.i rfl rfl<|A1)<|A1) fun a hF=>wfn rfl ?_
     refine A8 hF h (fun hc h=>?_) fun hc h=>?_
     ·refine wK<|Am<|wpIn_block ?_
      obtain ⟨a4,eS,h⟩:=A0 h
      obtain ⟨gV,eT,h⟩:=A0 h
      obtain ⟨fP,eU,h⟩:=A0 h
      obtain ⟨aS,dL,h⟩:=A0 h
      refine Bq 15 [14] _ (D:=fun w=>St w0 [arr 87 1 (fN 1) bM aR.length bP bQ,blk b5 135 #[sv cT a7.2.b cU,.bool a7.2.bad],blk a9 38 #[.string aB.1,iv aC.1,iv aD.1,iv aE.1,iv aF.1,iv aG.1,iv aH.1,iv aI.1],blk a3 49 #[iv y6.1,.string ByteArray.empty,iv 0,.string aB.1,iv aC.1,iv aD.1,iv aE.1,iv aF.1,iv aG.1,iv aH.1,iv aI.1,iv bW.1,iv bX.1,sv bM aR bP,iv 0,iv 0,iv 0,iv 0,iv 0,.slice none 0 0,.string ByteArray.empty],blk b4 49 z48] w∧FrzAt ν414 w) kr kr hF.size (fun w hx=>?_) (fun _ _ h=>h)
      replace hS:=hS.later hx
      refine ⟨⟨St.pick [0,2,3,4,5] (by decide) hS,hS.frz (i:=1) rfl hlow⟩,?_⟩
      have gT:=Frz.le_refl ν414
      have eK:ArrM ν414 14 api_Echo.cells (Al a8 a2 a4.toNat 14) (a2-a4.toNat) aS:=fun w_ hw_=>(dJ w_ hw_).cutD api_Echo.cells_len dL
      refine WT.s [0,1,2,3,4,5,6,7,8,9,10,11,12,13] [14] kr kr ?_
      refine qC 14 [(81,sv bM aR bP),(92,.slice (Al a8 a2 a4.toNat 14) aS.length (a2-a4.toNat))] hF (oL 39 3 13 (fun _ hd=>hd.1) rfl rfl<|oL 3 2 5 (fun _ hd=>hd.1) rfl rfl<|oM 3 eS<|oA 3 eT<|oL 3 2 5 (fun _ hd=>hd.1) rfl rfl<|oM 3 eU<|oX (.run [] (Instr.sliceAt 87 (sv a8 a7.1 a2) (some (iv a4)) (some (iv fP)) none) (.slice (Al a8 a2 a4.toNat 14) aS.length (a2-a4.toNat))) (Uw kr (dJ _ (hS.frz (i:=1) rfl hlow)) (fun _=>dL))<|A1) fun a hF=>?_
      refine WRun.fin ?_
      refine all_cons ?_ (Aq)
      have dN:All2 (Rp87 ν414) ([[.slice (Al a8 a2 a4.toNat 14) aS.length (a2-a4.toNat)]]:List (List Value)) [aS]:=(All2.cons ⟨(Al a8 a2 a4.toNat 14),(a2-a4.toNat),rfl,eK⟩ All2.nil)
      refine Qn (e:=87) (sz:=1) (f:=fN 1) (t:=39) (len:=1) (fun dF=>[(2,pb b4),(4,pb b5),(5,pb a3),(6,pb a9),(7,sv a8 a7.1 a2),(8,iv bV),(81,sv bM aR bP),(93,sb dF 1)]) #[(0,.slice (Al a8 a2 a4.toNat 14) aS.length (a2-a4.toNat))] #[.slice (Al a8 a2 a4.toNat 14) aS.length (a2-a4.toNat)] ([[.slice (Al a8 a2 a4.toNat 14) aS.length (a2-a4.toNat)]]:List (List Value)) ([aS]) hF hS kr ⟨kr⟩ kr (Dg 1) rfl rfl rfl kr (fun _=>⟨kr⟩) fun dF w a hF hS=>⟨⟨St.pick [1,3,4,5,6] (by decide) hS,(hS.frz (i:=2) rfl hlow)⟩,?_⟩
      refine WT.z [] kr ?_
      refine WRun.fin ?_
      obtain ⟨cQ,dM,h⟩:=A0 h
      have eO:All2 (Rp87 ν414) (bQ++([[.slice (Al a8 a2 a4.toNat 14) aS.length (a2-a4.toNat)]]:List (List Value))) cQ:=by rw [(Mh dM).1];exact All2.app dB dN
      refine SK.wi (Xc (t:=39) (ty:=39) (bytes:=24) (c:=bQ) (c':=([[.slice (Al a8 a2 a4.toNat 14) aS.length (a2-a4.toNat)]]:List (List Value))) (l:=aR) (l':=([aS])) (fun cE cG=>[(2,pb b4),(4,pb b5),(5,pb a3),(6,pb a9),(7,sv a8 a7.1 a2),(8,iv bV),(94,sv cE cQ cG)]) 1 hF hS rfl kr ⟨kr⟩ kr (hS.arr (i:=0) rfl) (ArrQ.one dN Rp87.one) dM (fun _ _=>⟨kr⟩) fun cE cG w a hF hS=>?_)
      refine rn 2 18 [(2,pb b4),(4,pb b5),(5,pb a3),(6,pb a9),(7,sv a8 a7.1 a2),(8,iv bV),(94,sv cE cQ cG),(96,.pointer (some ⟨a3,13,none⟩))] hF fun a hF=>?_
      refine SK.wi (qs 39 5 13 (sv cE cQ cG) hF hS rfl fun w a hF hS=>WI.fin rfl (A9<|A3<|?_))
      refine WI.region ?_
      obtain ⟨eA,eV,h⟩:=A0 h
      refine ro 3 3 [(2,pb b4),(4,pb b5),(5,pb a3),(6,pb a9),(7,sv a8 a7.1 a2),(8,iv eA)] hF (oA 3 eV<|A1) fun a hF=>wfn rfl ?_
      rw [hk2] at h
      exact ⟨nk2,Nat.lt_succ_self _,cQ,eA,cE,cG,(bQ++([[.slice (Al a8 a2 a4.toNat 14) aS.length (a2-a4.toNat)]]:List (List Value))),hF.sub kr,St.pick [1,2,3,4,5,6] (by decide) hS,eO,h⟩
     ·refine wpIn_exit (A5<|A5<|Ar<|A9<|A3<|?_)
      exact ⟨ByteArray.empty,aI.1,bW.1,bX.1,aR,0,0,0,0,0,[],0,ByteArray.empty,aB.1,aC.1,aD.1,aE.1,aF.1,aG.1,aH.1,a7.2.b,a7.2.bad,ν414,bM,bP,bQ,none,0,cT,cU,hF.sub kr,St.pick [0,1,2,4,5] (by decide) hS,dB,ArrM.nil,dK,a1,hext,hlow,h⟩
    ·replace h:=Gw h cL
     rw [cL] at hF
     refine qk 7 [(70,.bool false),(71,undef)] hF fun a hF=>?_
     refine qk 8 [(72,undef)] hF fun a hF=>?_
     refine qk 9 [(73,undef)] hF fun a hF=>?_
     refine qk 10 [(74,undef)] hF fun a hF=>?_
     refine qk 11 [(75,undef)] hF fun a hF=>?_
     refine qn 1 12 [(76,.bool false)] hF fun a hF=>wfn rfl ?_
     refine wpIn_cond_false (hF.get rfl) ?_
     refine wpIn_exit (A5<|A5<|Ar<|A9<|A3<|?_)
     exact ⟨ByteArray.empty,aI.1,bW.1,bX.1,aR,0,0,0,0,0,[],0,ByteArray.empty,aB.1,aC.1,aD.1,aE.1,aF.1,aG.1,aH.1,a7.2.b,a7.2.bad,ν414,bM,bP,bQ,none,0,cT,cU,hF.sub kr,St.pick [0,1,2,4,5] (by decide) hS,dB,ArrM.nil,dK,a1,hext,hlow,h⟩
  ·refine qnB [(97,.bool (y6.1==2))] hF fun a hF=>?_
   refine A8 hF h (fun hc h=>?_) fun hc h=>?_
   ·refine esr<|qn 1 1 [(99,pb b5)] hF fun a hF=>?_
    obtain ⟨d0,fB,h⟩:=A0 h
    replace hS:=hS.s2.s2
    refine SK.wi (qR (fun dZ=>[(100,dZ)]) hF (Jt F _ _ fB ν7 w0 w _ hlow a0 hS) ?_)
    rintro dZ w a ⟨ν503,g3,gL,cY,hlow,rfl,aK,hS⟩ hF
    replace hext:=hext.t cY
    replace hA3:=hA3.mono cY.1
    replace a0:=a0.mono cY.1
    replace a1:=a1.t cY.1
    refine qn 1 3 [(100,.string d0.1),(101,.pointer (some ⟨a3,1,none⟩))] hF fun a hF=>?_
    refine SK.wi (qs 9 2 1 (.string d0.1) hF hS rfl fun w a hF hS=>wfn rfl ?_)
    refine esr<|qn 1 1 [(102,pb b5)] hF fun a hF=>?_
    obtain ⟨d1,fC,h⟩:=A0 h
    refine SK.wi (qR (fun e0=>[(103,e0)]) hF (Aj F _ _ fC ν503 w0 w _ hlow aK hS) ?_)
    rintro e0 w a ⟨ν510,g4,gM,cO,hlow,rfl,aN,hS⟩ hF
    replace hext:=hext.t cO
    replace hA3:=hA3.mono cO.1
    replace a0:=a0.mono cO.1
    replace aK:=aK.mono cO.1
    replace a1:=a1.t cO.1
    refine qn 1 3 [(103,iv d1.1),(104,.pointer (some ⟨a3,2,none⟩))] hF fun a hF=>?_
    refine SK.wi (qs 3 2 2 (iv d1.1) hF hS rfl fun w a hF hS=>wfn rfl ?_)
    refine esr<|qn 1 1 [(105,pb b5)] hF fun a hF=>?_
    obtain ⟨bY,fD,h⟩:=A0 h
    refine SK.wi (qR (fun e1=>[(106,e1)]) hF (Eb F _ _ fD ν510 w0 w _ hlow aN hS) ?_)
    rintro e1 w a ⟨ν517,g5,gN,cD,hlow,rfl,aV,hS⟩ hF
    replace hext:=hext.t cD
    replace hA3:=hA3.mono cD.1
    replace a0:=a0.mono cD.1
    replace aK:=aK.mono cD.1
    replace aN:=aN.mono cD.1
    replace a1:=a1.t cD.1
    refine qn 1 3 [(107,.agg #[iv bY.1,iv 0,iv 0,iv 0,iv 0])] hF fun a hF=>?_
    refine SK.wi (qA 43 z43 (fun c3=>[(9,pb c3)]) hF hS fun c3 w a hF hS=>?_)
    refine SK.wi (qw 43 0 #[iv bY.1,iv 0,iv 0,iv 0,iv 0] hF hS rfl fun w a hF hS=>wfn rfl ?_)
    refine esr<|qn 1 1 [(108,pb b5)] hF fun a hF=>?_
    obtain ⟨bZ,fE,h⟩:=A0 h
    replace hS:=hS.s2.s2
    refine SK.wi (qR (fun e2=>[(109,e2)]) hF (Eb F _ _ fE ν517 w0 w _ hlow aV hS) ?_)
    rintro e2 w a ⟨ν525,g6,gO,cA,hlow,rfl,bS,hS⟩ hF
    replace hext:=hext.t cA
    replace hA3:=hA3.mono cA.1
    replace a0:=a0.mono cA.1
    replace aK:=aK.mono cA.1
    replace aN:=aN.mono cA.1
    replace aV:=aV.mono cA.1
    replace a1:=a1.t cA.1
    refine qn 1 3 [(109,iv bZ.1),(110,.pointer (some ⟨c3,1,none⟩))] hF fun a hF=>?_
    refine SK.wi (qs 3 2 1 (iv bZ.1) hF hS rfl fun w a hF hS=>wfn rfl ?_)
    refine esr<|qn 1 1 [(111,pb b5)] hF fun a hF=>?_
    obtain ⟨c0,fF,h⟩:=A0 h
    refine SK.wi (qR (fun e3=>[(112,e3)]) hF (Aj F _ _ fF ν525 w0 w _ hlow bS hS) ?_)
    rintro e3 w a ⟨ν532,g7,gP,c5,hlow,rfl,c7,hS⟩ hF
    replace hext:=hext.t c5
    replace hA3:=hA3.mono c5.1
    replace a0:=a0.mono c5.1
    replace aK:=aK.mono c5.1
    replace aN:=aN.mono c5.1
    replace aV:=aV.mono c5.1
    replace bS:=bS.mono c5.1
    replace a1:=a1.t c5.1
    refine qn 1 3 [(112,iv c0.1),(113,.pointer (some ⟨c3,2,none⟩))] hF fun a hF=>?_
    refine SK.wi (qs 3 2 2 (iv c0.1) hF hS rfl fun w a hF hS=>wfn rfl ?_)
    refine esr<|qn 1 1 [(114,pb b5)] hF fun a hF=>?_
    obtain ⟨c1,fG,h⟩:=A0 h
    refine SK.wi (qR (fun e4=>[(115,e4)]) hF (Aj F _ _ fG ν532 w0 w _ hlow c7 hS) ?_)
    rintro e4 w a ⟨ν539,g8,gQ,bU,hlow,rfl,cJ,hS⟩ hF
    replace hext:=hext.t bU
    replace hA3:=hA3.mono bU.1
    replace a0:=a0.mono bU.1
    replace aK:=aK.mono bU.1
    replace aN:=aN.mono bU.1
    replace aV:=aV.mono bU.1
    replace bS:=bS.mono bU.1
    replace c7:=c7.mono bU.1
    replace a1:=a1.t bU.1
    refine qn 1 3 [(115,iv c1.1),(116,.pointer (some ⟨c3,3,none⟩))] hF fun a hF=>?_
    refine SK.wi (qs 3 2 3 (iv c1.1) hF hS rfl fun w a hF hS=>wfn rfl ?_)
    refine esr<|qn 1 1 [(117,pb b5)] hF fun a hF=>?_
    obtain ⟨c2,fH,h⟩:=A0 h
    refine SK.wi (qR (fun e5=>[(118,e5)]) hF (Aj F _ _ fH ν539 w0 w _ hlow cJ hS) ?_)
    rintro e5 w a ⟨ν546,g9,gR,aZ,hlow,rfl,d7,hS⟩ hF
    replace hext:=hext.t aZ
    replace hA3:=hA3.mono aZ.1
    replace a0:=a0.mono aZ.1
    replace aK:=aK.mono aZ.1
    replace aN:=aN.mono aZ.1
    replace aV:=aV.mono aZ.1
    replace bS:=bS.mono aZ.1
    replace c7:=c7.mono aZ.1
    replace cJ:=cJ.mono aZ.1
    replace a1:=a1.t aZ.1
    refine rn 1 3 [(2,pb b4),(4,pb b5),(5,pb a3),(9,pb c3),(118,iv c2.1),(119,.pointer (some ⟨c3,4,none⟩))] hF fun a hF=>?_
    refine SK.wi (qs 3 2 4 (iv c2.1) hF hS rfl fun w a hF hS=>wfn rfl ?_)
    refine Am<|esr<|qx 3 3 [(122,.bool ((C6 (api_Grid.mk bY.1 bZ.1 c0.1 c1.1 c2.1)) != 0))] hF (oN 43 2 0 5 hS.e rfl<|oC (fun w2 hd=>No (api_Grid.mk bY.1 bZ.1 c0.1 c1.1 c2.1) _ rfl _ w2 (A4 w2))<|A1) fun a w hF hx=>?_
    replace hS:=hS.later hx
    refine wfn rfl ?_
    refine A8 hF h (fun hc h=>?_) fun hc h=>?_
    ·refine esr<|qn 1 1 [(123,.agg z48)] hF fun a hF=>?_
     refine SK.wi (qw 49 4 z48 hF hS rfl fun w a hF hS=>?_)
     refine qn 1 3 [(3,.bool false)] hF fun a hF=>wfn rfl ?_
     refine wpIn_ret (A2<|Ab<|A2<|A7 [.cell 2 49,.tmp 3] [_,_] hF rfl ⟨⟨_,rfl,Ea (cs:=[iv 0,.string ByteArray.empty,iv 0,.string ByteArray.empty,iv 0,iv 0,iv 0,iv 0,iv 0,iv 0,iv 0,iv 0,iv 0,.slice none 0 0,iv 0,iv 0,iv 0,iv 0,iv 0,.slice none 0 0,.string ByteArray.empty]) kr ((hS.blk (i:=4) rfl).cells rfl)⟩,rfl,trivial⟩ ?_)
     obtain rfl:=Ae h
     exact ⟨_,rfl,ν546,none,0,[],none,0,hext,rfl,ArrQ.nil,ArrM.nil,St.pick [0] (by decide) hS⟩
    ·refine wK ?_
     obtain ⟨fQ,eW,h⟩:=A0 h
     obtain ⟨cR,fI,h⟩:=A0 h
     refine Bq 10 [7] _ (D:=fun w=>St w0 [blk c3 43 #[iv bY.1,iv bZ.1,iv c0.1,iv c1.1,iv c2.1],blk a3 49 #[iv y6.1,.string d0.1,iv d1.1,.string ByteArray.empty,iv 0,iv 0,iv 0,iv 0,iv 0,iv 0,iv 0,iv 0,iv 0,.slice none 0 0,iv 0,iv 0,iv 0,iv 0,iv 0,.slice none 0 0,.string ByteArray.empty],blk b4 49 z48] w∧FrzAt ν546 w) kr kr hF.size (fun w hx=>?_) (fun _ _ h=>h)
     replace hS:=hS.later hx
     refine ⟨⟨St.pick [2,3,4] (by decide) hS,hS.frz (i:=0) rfl hlow⟩,?_⟩
     have dA:=Frz.le_refl ν546
     refine WT.s [0,1,2,3,4,5,6] [7] kr kr ?_
     refine qC 7 [(124,.agg #[iv bY.1,iv bZ.1,iv c0.1,iv c1.1,iv c2.1]),(125,pb b5),(130,iv fQ)] hF (oN 43 0 0 5 (fun _ hd=>hd.1) rfl<|oL 3 0 3 (fun _ hd=>hd.1) rfl rfl<|oL 3 0 4 (fun _ hd=>hd.1) rfl rfl<|oM 3 eW<|A1) fun a hF=>?_
     refine WRun.fin ?_
     refine all_cons ?_ (Aq)
     refine qR (fun e6=>[(131,e6)]) hF (Qb F _ _ _ fI ν546 w0 w _ hlow d7 hS) ?_
     rintro e6 w a ⟨ν573,d3,d5,eD,eG,aT,hlow,rfl,eL,eM,hS⟩ hF
     replace hext:=hext.t aT
     replace hA3:=hA3.mono aT.1
     replace a0:=a0.mono aT.1
     replace aK:=aK.mono aT.1
     replace aN:=aN.mono aT.1
     replace aV:=aV.mono aT.1
     replace bS:=bS.mono aT.1
     replace c7:=c7.mono aT.1
     replace cJ:=cJ.mono aT.1
     replace d7:=d7.mono aT.1
     replace a1:=a1.t aT.1
     replace dA:=dA.t aT.1
     refine ⟨⟨St.pick [2,3,4] (by decide) hS,(hS.frz (i:=0) rfl hlow).low dA⟩,?_⟩
     refine WT.z [8,9] kr ?_
     refine qC 2 [(132,.agg #[iv bY.1,iv bZ.1,iv c0.1,iv c1.1,iv c2.1,sv d3 cR.1 d5]),(133,.pointer (some ⟨a3,14,none⟩))] hF A1 fun a hF=>?_
     refine WRun.fin ?_
     refine SK.wi (qm 46 3 14 [iv bY.1,iv bZ.1,iv c0.1,iv c1.1,iv c2.1,sv d3 cR.1 d5] hF hS rfl fun w a hF hS=>WI.fin rfl (A9<|A3<|?_))
     replace hS:=hS.nilarr 87 1 (fN 1)
     exact ⟨d0.1,0,0,0,[],bY.1,bZ.1,c0.1,c1.1,c2.1,cR.1,d1.1,ByteArray.empty,ByteArray.empty,0,0,0,0,0,0,cR.2.b,cR.2.bad,ν573,none,0,[],d3,d5,eD,eG,hF.sub kr,St.pick [0,1,2,4,5] (by decide) hS,All2.nil,eL,eM,a1,hext,hlow,h⟩
   ·refine qnB [(134,.bool (y6.1==3))] hF fun a hF=>?_
    refine A8 hF h (fun hc h=>?_) fun hc h=>?_
    ·refine esr<|qn 1 1 [(136,pb b5)] hF fun a hF=>?_
     obtain ⟨dC,fJ,h⟩:=A0 h
     replace hS:=hS.s2.s2
     refine SK.wi (qR (fun e7=>[(137,e7)]) hF (Aj F _ _ fJ ν7 w0 w _ hlow a0 hS) ?_)
     rintro e7 w a ⟨ν583,gA,gS,cZ,hlow,rfl,d8,hS⟩ hF
     replace hext:=hext.t cZ
     replace hA3:=hA3.mono cZ.1
     replace a0:=a0.mono cZ.1
     replace a1:=a1.t cZ.1
     refine qn 1 3 [(137,iv dC.1),(138,.pointer (some ⟨a3,2,none⟩))] hF fun a hF=>?_
     refine SK.wi (qs 3 2 2 (iv dC.1) hF hS rfl fun w a hF hS=>wfn rfl ?_)
     refine WI.region<|qn 1 1 [(139,pb b5)] hF fun a hF=>?_
     obtain ⟨cS,fL,h⟩:=A0 h
     refine SK.wi (qR (fun e8=>[(140,e8)]) hF (Jt F _ _ fL ν583 w0 w _ hlow d8 hS) ?_)
     rintro e8 w a ⟨ν590,eE,eH,cP,hlow,rfl,eN,hS⟩ hF
     replace hext:=hext.t cP
     replace hA3:=hA3.mono cP.1
     replace a0:=a0.mono cP.1
     replace d8:=d8.mono cP.1
     replace a1:=a1.t cP.1
     refine qn 1 3 [(140,.string cS.1),(141,.pointer (some ⟨a3,20,none⟩))] hF fun a hF=>?_
     refine SK.wi (qs 9 2 20 (.string cS.1) hF hS rfl fun w a hF hS=>WI.fin rfl (A9<|A3<|?_))
     replace hS:=hS.nilarr 87 1 (fN 1)
     exact ⟨ByteArray.empty,0,0,0,[],0,0,0,0,0,[],dC.1,cS.1,ByteArray.empty,0,0,0,0,0,0,cS.2.b,cS.2.bad,ν590,none,0,[],none,0,eE,eH,hF.sub kr,St.pick [0,1,2,3,4] (by decide) hS,All2.nil,ArrM.nil,eN,a1,hext,hlow,h⟩
    ·refine wpIn_skip (A9<|A3<|?_)
     replace hS:=hS.nilarr 87 1 (fN 1)
     exact ⟨ByteArray.empty,0,0,0,[],0,0,0,0,0,[],0,ByteArray.empty,ByteArray.empty,0,0,0,0,0,0,y6.2.b,y6.2.bad,ν7,none,0,[],none,0,eC,eF,hF.sub kr,St.pick [0,2,3,1,4] (by decide) hS,All2.nil,ArrM.nil,a0,a1,hext,hlow,h⟩
 clear a1
 rintro a w ⟨b0,b3,b6,b7,aQ,b8,b9,bA,bB,bC,aX,bD,b1,b2,bE,bF,bG,bH,bI,bJ,cB,cF,ν284,bK,bN,cV,bL,bO,d2,d4,hF,hS,cM,cH,dI,cW,hext,hlow,h⟩
 replace hA3:=hA3.mono cW
 replace a0:=a0.mono cW
 rw [Db] at h
 refine Am<|esr<|qo 5 5 [(146,.bool cF)] hF (oL 4 2 1 hS.i rfl rfl<|A1) fun a hF=>?_
 rcases Bool.eq_false_or_eq_true (cF) with cK|cK
 ·replace h:=Gx h cK
  rw [cK] at hF
  refine qk 6 [(146,.bool true),(147,undef)] hF fun a hF=>?_
  refine qk 7 [(148,undef)] hF fun a hF=>?_
  refine qk 8 [(149,undef)] hF fun a hF=>?_
  refine qk 9 [(150,undef)] hF fun a hF=>?_
  refine qk 10 [(151,undef)] hF fun a hF=>?_
  refine qk 11 [(152,undef)] hF fun a hF=>?_
  obtain ⟨fR,eX,h⟩:=A0 h
  refine qx 6 17 [(158,.bool true)] hF (oGs [⟨154,false,true⟩] (oN 49 3 0 21 hS.e rfl<|A1)<|oX (.call [⟨154,false,true⟩] 20 #[.agg #[iv y6.1,.string b0,iv bD,.string b2,iv bE,iv bF,iv bG,iv bH,iv bI,iv bJ,iv b3,iv b6,iv b7,sv bK aQ bN,iv b8,iv b9,iv bA,iv bB,iv bC,sv bL aX bO,.string b1]] (iv fR)) (show Ob.ok _ Ext _ _ from fun hk w2 hd=>Ns F (ref12_Item.mk y6.1 b0 bD (api_Sweep.mk (api_Site.mk b2 bE bF bG bH bI bJ b3) b6 b7 aQ) (api_Field.mk (api_Grid.mk b8 b9 bA bB bC) aX) b1) _ ((fun hk=>Bt eX hk) hk) _ w2 (A4 w2) (ArrQ.of_own ((hS.later hd).arr (i:=0) rfl) cM Rp87.mono (FrzAt.le_mem ((hS.later hd).frz (i:=1) rfl hlow))) (cH.mono (FrzAt.le_mem ((hS.later hd).frz (i:=1) rfl hlow))))<|A1) fun a w hF hx=>?_
  replace hS:=hS.later hx
  refine wfn rfl ?_
  refine wpIn_cond_true (hF.get rfl) ?_
  refine esr<|qn 1 1 [(159,.agg z48)] hF fun a hF=>?_
  refine SK.wi (qw 49 4 z48 hF hS rfl fun w a hF hS=>?_)
  refine qn 1 3 [(3,.bool false)] hF fun a hF=>wfn rfl ?_
  refine wpIn_ret (A2<|A7 [.cell 2 49,.tmp 3] [_,_] hF rfl ⟨⟨_,rfl,Ea (cs:=[iv 0,.string ByteArray.empty,iv 0,.string ByteArray.empty,iv 0,iv 0,iv 0,iv 0,iv 0,iv 0,iv 0,iv 0,iv 0,.slice none 0 0,iv 0,iv 0,iv 0,iv 0,iv 0,.slice none 0 0,.string ByteArray.empty]) kr ((hS.blk (i:=4) rfl).cells rfl)⟩,rfl,trivial⟩ ?_)
  obtain rfl:=Ae h
  exact ⟨_,rfl,ν284,none,0,[],none,0,hext,rfl,ArrQ.nil,ArrM.nil,St.pick [1] (by decide) hS⟩
 ·replace h:=Gw h cK
  rw [cK] at hF
  obtain ⟨eB,eY,h⟩:=A0 h
  refine qx 12 17 [(158,.bool (bif (decide ((ln cB)>0)) then true else (eB != 0)))] hF (oGs [⟨146,false,false⟩] (oL 22 2 0 hS.e rfl rfl<|A1)<|oGs [⟨154,false,(decide ((ln cB)>0))⟩] (oN 49 3 0 21 hS.e rfl<|A1)<|oX (.call [⟨154,false,(decide ((ln cB)>0))⟩] 20 #[.agg #[iv y6.1,.string b0,iv bD,.string b2,iv bE,iv bF,iv bG,iv bH,iv bI,iv bJ,iv b3,iv b6,iv b7,sv bK aQ bN,iv b8,iv b9,iv bA,iv bB,iv bC,sv bL aX bO,.string b1]] (iv eB)) (show Ob.ok _ Ext _ _ from fun hk w2 hd=>Ns F (ref12_Item.mk y6.1 b0 bD (api_Sweep.mk (api_Site.mk b2 bE bF bG bH bI bJ b3) b6 b7 aQ) (api_Field.mk (api_Grid.mk b8 b9 bA bB bC) aX) b1) _ ((fun hk=>Bt eY hk) hk) _ w2 (A4 w2) (ArrQ.of_own ((hS.later hd).arr (i:=0) rfl) cM Rp87.mono (FrzAt.le_mem ((hS.later hd).frz (i:=1) rfl hlow))) (cH.mono (FrzAt.le_mem ((hS.later hd).frz (i:=1) rfl hlow))))<|A1) fun a w hF hx=>?_
  replace hS:=hS.later hx
  refine wfn rfl ?_
  refine A8 hF h (fun hc h=>?_) fun hc h=>?_
  ·refine esr<|qn 1 1 [(159,.agg z48)] hF fun a hF=>?_
   refine SK.wi (qw 49 4 z48 hF hS rfl fun w a hF hS=>?_)
   refine qn 1 3 [(3,.bool false)] hF fun a hF=>wfn rfl ?_
   refine wpIn_ret (A2<|A7 [.cell 2 49,.tmp 3] [_,_] hF rfl ⟨⟨_,rfl,Ea (cs:=[iv 0,.string ByteArray.empty,iv 0,.string ByteArray.empty,iv 0,iv 0,iv 0,iv 0,iv 0,iv 0,iv 0,iv 0,iv 0,.slice none 0 0,iv 0,iv 0,iv 0,iv 0,iv 0,.slice none 0 0,.string ByteArray.empty]) kr ((hS.blk (i:=4) rfl).cells rfl)⟩,rfl,trivial⟩ ?_)
   obtain rfl:=Ae h
   exact ⟨_,rfl,ν284,none,0,[],none,0,hext,rfl,ArrQ.nil,ArrM.nil,St.pick [1] (by decide) hS⟩
  ·refine wK<|esr<|qo 1 1 [(160,.agg #[iv y6.1,.string b0,iv bD,.string b2,iv bE,iv bF,iv bG,iv bH,iv bI,iv bJ,iv b3,iv b6,iv b7,sv bK aQ bN,iv b8,iv b9,iv bA,iv bB,iv bC,sv bL aX bO,.string b1])] hF (oN 49 3 0 21 hS.i rfl<|A1) fun a hF=>?_
   refine SK.wi (qw 49 4 #[iv y6.1,.string b0,iv bD,.string b2,iv bE,iv bF,iv bG,iv bH,iv bI,iv bJ,iv b3,iv b6,iv b7,sv bK aQ bN,iv b8,iv b9,iv bA,iv bB,iv bC,sv bL aX bO,.string b1] hF hS rfl fun w a hF hS=>?_)
   refine qn 1 3 [(3,.bool true)] hF fun a hF=>wfn rfl ?_
   refine wpIn_ret (A7 [.cell 2 49,.tmp 3] [_,_] hF rfl ⟨⟨_,rfl,Ea (cs:=[iv y6.1,.string b0,iv bD,.string b2,iv bE,iv bF,iv bG,iv bH,iv bI,iv bJ,iv b3,iv b6,iv b7,sv bK aQ bN,iv b8,iv b9,iv bA,iv bB,iv bC,sv bL aX bO,.string b1]) kr ((hS.blk (i:=4) rfl).cells rfl)⟩,rfl,trivial⟩ ?_)
   obtain ⟨ν321,c8,hlow,hS,fM⟩:=hS.freeze (i:=1) (j:=0) rfl rfl (by decide) hlow
   replace hA3:=hA3.mono c8.1
   replace a0:=a0.mono c8.1
   replace cM:=All2.mono Rp87.mono c8.1 cM
   replace cH:=cH.mono c8.1
   replace dI:=dI.mono c8.1
   replace cW:=cW.t c8.1
   replace hext:=hext.t c8
   have eJ:=ArrQ.of_arr (l:=aQ) fM cM Rp87.mono (Frz.le_refl _)
   obtain rfl:=Ae h
   exact ⟨_,rfl,ν321,bK,bN,cV,bL,bO,hext,rfl,eJ,cH,St.pick [0] (by decide) hS⟩
end Go.Proofs.YtifbomimeodibaaGreat
