import Derived.Test.YtifbomimeodibaaGreatV3XD
import Derived.Test.YtifbomimeodibaaGreatProg
import Derived.Test.YtifbomimeodibaaGreatV3XW1
import Derived.Test.YtifbomimeodibaaGreatV3XW4
import Derived.Test.YtifbomimeodibaaGreatV3XW7
import Derived.Test.YtifbomimeodibaaGreatV3XW9
import Derived.Test.YtifbomimeodibaaGreatV3XW11
namespace Go.Proofs.YtifbomimeodibaaGreat
open Go Go.RowKit Go.Eng
set_option maxRecDepth 10000
set_option maxHeartbeats 4000000
set_option linter.unusedVariables false
set_option linter.unusedSimpArgs false
theorem U2 (F:Nat) (p0:(List Int)) (res:(ref12_Item×Bool)) (h:Ku F p0=some res) (μ:Frz) (w0:World) (hm:FrzAt μ w0) {ad1:Option Addr} {cap2:Nat} (hA3:ArrM μ 1 (fK .u8) ad1 cap2 p0):Bu Tryz.prog 75 #[sv ad1 p0 cap2] w0 (fun e w=>∃(ν_:Frz) (dD:Option Addr) (dG:Nat) (eI:List (List Value)) (dE:Option Addr) (dH:Nat),μ.ext w0.heap.size ν_∧e=(.tuple #[.agg #[iv res.1.Kind,.string res.1.Name,iv res.1.Time,.string res.1.Sweep.Site.Name,iv res.1.Sweep.Site.X,iv res.1.Sweep.Site.Y,iv res.1.Sweep.Site.Z,iv res.1.Sweep.Site.Rose,iv res.1.Sweep.Site.Gates,iv res.1.Sweep.Site.Step,iv res.1.Sweep.Site.Width,iv res.1.Sweep.Tilt,iv res.1.Sweep.Time,sv dD res.1.Sweep.Rays dG,iv res.1.Field.Grid.X,iv res.1.Field.Grid.Y,iv res.1.Field.Grid.Size,iv res.1.Field.Grid.Wide,iv res.1.Field.Grid.High,sv dE res.1.Field.Vals dH,.string res.1.Text],.bool res.2])∧ArrQ ν_ 1 Rp87 dD dG eI res.1.Sweep.Rays∧ArrM ν_ 2 api_Span.cells dE dH res.1.Field.Vals∧St w0 [fz w0 ν_] w):=by
 obtain ⟨hlow,hS⟩:=hm.init
 have hext:=Frz.ext_refl w0.heap.size μ
 rw [Ku] at h
 refine Ah Tryz.func75 rfl 161 [(0,sv ad1 p0 cap2)] rfl rfl kr fun a w hw hF=>?_
 replace hS:=hS.cast hw
 clear hw
 refine esr ?_
 refine SK.wi (qA 49 #[iv 0,.string ByteArray.empty,iv 0,.string ByteArray.empty,iv 0,iv 0,iv 0,iv 0,iv 0,iv 0,iv 0,iv 0,iv 0,.slice none 0 0,iv 0,iv 0,iv 0,iv 0,iv 0,.slice none 0 0,.string ByteArray.empty] (fun b4=>[(2,pb b4)]) hF hS fun b4 w a hF hS=>?_)
 refine qn 1 2 [] hF fun a hF=>?_
 refine wfn rfl ?_
 refine esr ?_
 refine qn 2 2 [(11,.agg #[sv ad1 p0 cap2,.bool false])] hF fun a hF=>?_
 refine SK.wi (qB 135 (.agg #[sv ad1 p0 cap2,.bool false]) #[sv ad1 p0 cap2,.bool false] (fun b5=>[(12,pb b5)]) hF hS fun b5 w a hF hS=>?_)
 refine qn 1 4 [(4,pb b5)] hF fun a hF=>?_
 refine wfn rfl ?_
 refine esr ?_
 refine qn 1 1 [(13,pb b5)] hF fun a hF=>?_
 obtain ⟨y6,hy6,h⟩:=A1 h
 replace hS:=hS.s2
 refine SK.wi (qR (fun v9=>[(14,v9)]) hF (Ap F _ _ hy6 μ w0 w _ hlow hA3 hS) ?_)
 rintro v9 w a ⟨ν7,eC,eF,hx8,hlow,rfl,a0,hS⟩ hF
 replace hext:=Frz.ext_trans hext hx8
 replace hA3:=hA3.mono hx8.1
 refine qn 1 3 [(15,.agg #[iv y6.1,.string ByteArray.empty,iv 0,.string ByteArray.empty,iv 0,iv 0,iv 0,iv 0,iv 0,iv 0,iv 0,iv 0,iv 0,.slice none 0 0,iv 0,iv 0,iv 0,iv 0,iv 0,.slice none 0 0,.string ByteArray.empty])] hF fun a hF=>?_
 refine SK.wi (qA 49 #[iv 0,.string ByteArray.empty,iv 0,.string ByteArray.empty,iv 0,iv 0,iv 0,iv 0,iv 0,iv 0,iv 0,iv 0,iv 0,.slice none 0 0,iv 0,iv 0,iv 0,iv 0,iv 0,.slice none 0 0,.string ByteArray.empty] (fun a2=>[(5,pb a2)]) hF hS fun a2 w a hF hS=>?_)
 refine SK.wi (qS 49 0 0 (.agg #[iv y6.1,.string ByteArray.empty,iv 0,.string ByteArray.empty,iv 0,iv 0,iv 0,iv 0,iv 0,iv 0,iv 0,iv 0,iv 0,.slice none 0 0,iv 0,iv 0,iv 0,iv 0,iv 0,.slice none 0 0,.string ByteArray.empty]) #[iv y6.1,.string ByteArray.empty,iv 0,.string ByteArray.empty,iv 0,iv 0,iv 0,iv 0,iv 0,iv 0,iv 0,iv 0,iv 0,.slice none 0 0,iv 0,iv 0,iv 0,iv 0,iv 0,.slice none 0 0,.string ByteArray.empty] hF hS rfl fun w a hF hS=>?_)
 refine wfn rfl ?_
 have a1:=Frz.le_refl ν7
 refine Dg (fun a w=>∃(aL:ByteArray) (aO:Int) (aP:Int) (aQ:Int) (aA:(List (List api_Echo))) (aR:Int) (aS:Int) (aT:Int) (aU:Int) (aV:Int) (aD:(List api_Span)) (aW:Int) (aM:ByteArray) (aN:ByteArray) (aX:Int) (aY:Int) (aZ:Int) (b0:Int) (b1:Int) (b2:Int) (c6:(List Int)) (cG:Bool) (ν284:Frz) (b3:Option Addr) (b7:Nat) (d1:List (List Value)) (b6:Option Addr) (b8:Nat) (cV:Option Addr) (cY:Nat),Fr 161 [] [(2,pb b4),(4,pb b5),(5,pb a2)] a∧St w0 [arr 87 1 (fN 1) b3 aA.length b7 d1,fz w0 ν284,blk b5 135 #[sv cV c6 cY,.bool cG],blk a2 49 #[iv y6.1,.string aL,iv aW,.string aN,iv aX,iv aY,iv aZ,iv b0,iv b1,iv b2,iv aO,iv aP,iv aQ,sv b3 aA b7,iv aR,iv aS,iv aT,iv aU,iv aV,sv b6 aD b8,.string aM],blk b4 49 #[iv 0,.string ByteArray.empty,iv 0,.string ByteArray.empty,iv 0,iv 0,iv 0,iv 0,iv 0,iv 0,iv 0,iv 0,iv 0,.slice none 0 0,iv 0,iv 0,iv 0,iv 0,iv 0,.slice none 0 0,.string ByteArray.empty]] w∧(All2 (Rp87 ν284) d1 aA)∧(ArrM ν284 2 api_Span.cells b6 b8 aD)∧(ArrM ν284 1 (fK .u8) cV cY c6)∧(ν7.le ν284)∧(μ.ext w0.heap.size ν284)∧(Ay w0 ν284)∧Ct F y6 aL aO aP aQ aA aR aS aT aU aV aD aW aM aN aX aY aZ b0 b1 b2 c6 cG=some res) ?_ ?_
 ·skip
  refine qoB [(17,iv y6.1)] hF (oL 3 0 0 hS.i rfl rfl<|A9) fun a hF=>?_
  refine wpIn_block ?_
  refine qnB [(18,.bool (y6.1==1))] hF fun a hF=>?_
  refine Ai hF rfl (fun hc=>?_) (fun hc=>?_)
  ·replace h:=Ag h hc
   refine esr ?_
   refine qn 1 1 [(20,pb b5)] hF fun a hF=>?_
   obtain ⟨aB,eZ,h⟩:=A1 h
   replace hS:=hS.s2.s2
   refine SK.wi (qR (fun dO=>[(21,dO)]) hF (J3 F _ _ eZ ν7 w0 w _ hlow a0 hS) ?_)
   rintro dO w a ⟨ν327,fT,gB,d3,hlow,rfl,a8,hS⟩ hF
   replace hext:=Frz.ext_trans hext d3
   replace hA3:=hA3.mono d3.1
   replace a0:=a0.mono d3.1
   replace a1:=Frz.le_trans a1 d3.1
   refine qn 1 3 [(22,.agg #[.string aB.1,iv 0,iv 0,iv 0,iv 0,iv 0,iv 0,iv 0])] hF fun a hF=>?_
   refine SK.wi (qA 38 #[.string ByteArray.empty,iv 0,iv 0,iv 0,iv 0,iv 0,iv 0,iv 0] (fun a6=>[(6,pb a6)]) hF hS fun a6 w a hF hS=>?_)
   refine SK.wi (qS 38 0 0 (.agg #[.string aB.1,iv 0,iv 0,iv 0,iv 0,iv 0,iv 0,iv 0]) #[.string aB.1,iv 0,iv 0,iv 0,iv 0,iv 0,iv 0,iv 0] hF hS rfl fun w a hF hS=>?_)
   refine wfn rfl ?_
   refine esr ?_
   refine qn 1 1 [(23,pb b5)] hF fun a hF=>?_
   obtain ⟨aE,f0,h⟩:=A1 h
   replace hS:=hS.s2.s2
   refine SK.wi (qR (fun dP=>[(24,dP)]) hF (Df F _ _ f0 ν327 w0 w _ hlow a8 hS) ?_)
   rintro dP w a ⟨ν335,fU,gC,cO,hlow,rfl,a9,hS⟩ hF
   replace hext:=Frz.ext_trans hext cO
   replace hA3:=hA3.mono cO.1
   replace a0:=a0.mono cO.1
   replace a8:=a8.mono cO.1
   replace a1:=Frz.le_trans a1 cO.1
   refine qn 1 3 [(24,iv aE.1),(25,.pointer (some ⟨a6,1,none⟩))] hF fun a hF=>?_
   refine SK.wi (qs 3 2 1 (iv aE.1) hF hS rfl fun w a hF hS=>?_)
   refine wfn rfl ?_
   refine esr ?_
   refine qn 1 1 [(26,pb b5)] hF fun a hF=>?_
   obtain ⟨aF,f1,h⟩:=A1 h
   refine SK.wi (qR (fun dQ=>[(27,dQ)]) hF (Df F _ _ f1 ν335 w0 w _ hlow a9 hS) ?_)
   rintro dQ w a ⟨ν342,fV,gD,cC,hlow,rfl,aC,hS⟩ hF
   replace hext:=Frz.ext_trans hext cC
   replace hA3:=hA3.mono cC.1
   replace a0:=a0.mono cC.1
   replace a8:=a8.mono cC.1
   replace a9:=a9.mono cC.1
   replace a1:=Frz.le_trans a1 cC.1
   refine qn 1 3 [(27,iv aF.1),(28,.pointer (some ⟨a6,2,none⟩))] hF fun a hF=>?_
   refine SK.wi (qs 3 2 2 (iv aF.1) hF hS rfl fun w a hF hS=>?_)
   refine wfn rfl ?_
   refine esr ?_
   refine qn 1 1 [(29,pb b5)] hF fun a hF=>?_
   obtain ⟨aG,f2,h⟩:=A1 h
   refine SK.wi (qR (fun dR=>[(30,dR)]) hF (Ap F _ _ f2 ν342 w0 w _ hlow aC hS) ?_)
   rintro dR w a ⟨ν349,fW,gE,cA,hlow,rfl,b9,hS⟩ hF
   replace hext:=Frz.ext_trans hext cA
   replace hA3:=hA3.mono cA.1
   replace a0:=a0.mono cA.1
   replace a8:=a8.mono cA.1
   replace a9:=a9.mono cA.1
   replace aC:=aC.mono cA.1
   replace a1:=Frz.le_trans a1 cA.1
   refine qn 1 3 [(30,iv aG.1),(31,.pointer (some ⟨a6,3,none⟩))] hF fun a hF=>?_
   refine SK.wi (qs 3 2 3 (iv aG.1) hF hS rfl fun w a hF hS=>?_)
   refine wfn rfl ?_
   refine esr ?_
   refine qn 1 1 [(32,pb b5)] hF fun a hF=>?_
   obtain ⟨aH,f3,h⟩:=A1 h
   refine SK.wi (qR (fun dS=>[(33,dS)]) hF (Ap F _ _ f3 ν349 w0 w _ hlow b9 hS) ?_)
   rintro dS w a ⟨ν356,fX,gF,c4,hlow,rfl,bD,hS⟩ hF
   replace hext:=Frz.ext_trans hext c4
   replace hA3:=hA3.mono c4.1
   replace a0:=a0.mono c4.1
   replace a8:=a8.mono c4.1
   replace a9:=a9.mono c4.1
   replace aC:=aC.mono c4.1
   replace b9:=b9.mono c4.1
   replace a1:=Frz.le_trans a1 c4.1
   refine qn 1 3 [(33,iv aH.1),(34,.pointer (some ⟨a6,4,none⟩))] hF fun a hF=>?_
   refine SK.wi (qs 3 2 4 (iv aH.1) hF hS rfl fun w a hF hS=>?_)
   refine wfn rfl ?_
   refine esr ?_
   refine qn 1 1 [(35,pb b5)] hF fun a hF=>?_
   obtain ⟨aI,f4,h⟩:=A1 h
   refine SK.wi (qR (fun dT=>[(36,dT)]) hF (Ap F _ _ f4 ν356 w0 w _ hlow bD hS) ?_)
   rintro dT w a ⟨ν363,fY,gG,c0,hlow,rfl,bK,hS⟩ hF
   replace hext:=Frz.ext_trans hext c0
   replace hA3:=hA3.mono c0.1
   replace a0:=a0.mono c0.1
   replace a8:=a8.mono c0.1
   replace a9:=a9.mono c0.1
   replace aC:=aC.mono c0.1
   replace b9:=b9.mono c0.1
   replace bD:=bD.mono c0.1
   replace a1:=Frz.le_trans a1 c0.1
   refine rn 1 3 [(2,pb b4),(4,pb b5),(5,pb a2),(6,pb a6),(36,iv aI.1),(37,.pointer (some ⟨a6,5,none⟩))] hF fun a hF=>?_
   refine SK.wi (qs 3 2 5 (iv aI.1) hF hS rfl fun w a hF hS=>?_)
   refine wfn rfl ?_
   refine esr ?_
   refine qn 1 1 [(38,pb b5)] hF fun a hF=>?_
   obtain ⟨aJ,f5,h⟩:=A1 h
   refine SK.wi (qR (fun dU=>[(39,dU)]) hF (Ap F _ _ f5 ν363 w0 w _ hlow bK hS) ?_)
   rintro dU w a ⟨ν370,fZ,gH,bO,hlow,rfl,bY,hS⟩ hF
   replace hext:=Frz.ext_trans hext bO
   replace hA3:=hA3.mono bO.1
   replace a0:=a0.mono bO.1
   replace a8:=a8.mono bO.1
   replace a9:=a9.mono bO.1
   replace aC:=aC.mono bO.1
   replace b9:=b9.mono bO.1
   replace bD:=bD.mono bO.1
   replace bK:=bK.mono bO.1
   replace a1:=Frz.le_trans a1 bO.1
   refine qn 1 3 [(39,iv aJ.1),(40,.pointer (some ⟨a6,6,none⟩))] hF fun a hF=>?_
   refine SK.wi (qs 3 2 6 (iv aJ.1) hF hS rfl fun w a hF hS=>?_)
   refine wfn rfl ?_
   refine esr ?_
   refine qn 1 1 [(41,pb b5)] hF fun a hF=>?_
   obtain ⟨aK,f6,h⟩:=A1 h
   refine SK.wi (qR (fun dV=>[(42,dV)]) hF (Ap F _ _ f6 ν370 w0 w _ hlow bY hS) ?_)
   rintro dV w a ⟨ν377,g0,gI,bM,hlow,rfl,c7,hS⟩ hF
   replace hext:=Frz.ext_trans hext bM
   replace hA3:=hA3.mono bM.1
   replace a0:=a0.mono bM.1
   replace a8:=a8.mono bM.1
   replace a9:=a9.mono bM.1
   replace aC:=aC.mono bM.1
   replace b9:=b9.mono bM.1
   replace bD:=bD.mono bM.1
   replace bK:=bK.mono bM.1
   replace bY:=bY.mono bM.1
   replace a1:=Frz.le_trans a1 bM.1
   refine qn 1 3 [(42,iv aK.1),(43,.pointer (some ⟨a6,7,none⟩))] hF fun a hF=>?_
   refine SK.wi (qs 3 2 7 (iv aK.1) hF hS rfl fun w a hF hS=>?_)
   refine wfn rfl ?_
   refine Ar ?_
   obtain ⟨bQ,f7,h⟩:=A1 h
   refine Cz 5 [2] _ (D:=fun w=>St w0 [blk a6 38 #[.string aB.1,iv aE.1,iv aF.1,iv aG.1,iv aH.1,iv aI.1,iv aJ.1,iv aK.1],blk a2 49 #[iv y6.1,.string ByteArray.empty,iv 0,.string ByteArray.empty,iv 0,iv 0,iv 0,iv 0,iv 0,iv 0,iv 0,iv 0,iv 0,.slice none 0 0,iv 0,iv 0,iv 0,iv 0,iv 0,.slice none 0 0,.string ByteArray.empty],blk b4 49 #[iv 0,.string ByteArray.empty,iv 0,.string ByteArray.empty,iv 0,iv 0,iv 0,iv 0,iv 0,iv 0,iv 0,iv 0,iv 0,.slice none 0 0,iv 0,iv 0,iv 0,iv 0,iv 0,.slice none 0 0,.string ByteArray.empty]] w∧FrzAt ν377 w) kr kr hF.size (fun w hx=>?_) (fun _ _ h=>h)
   replace hS:=hS.later hx
   refine ⟨⟨St.pick [2,3,4] (by decide) hS,hS.frz (i:=0) rfl hlow⟩,?_⟩
   have d9:=Frz.le_refl ν377
   refine WT.s [0,1] [2] kr kr ?_
   refine qC 2 [(44,.agg #[.string aB.1,iv aE.1,iv aF.1,iv aG.1,iv aH.1,iv aI.1,iv aJ.1,iv aK.1]),(45,pb b5)] hF (oN 38 0 0 8 (fun _ hd=>hd.1) rfl<|A9) fun a hF=>?_
   refine WRun.fin ?_
   refine all_cons ?_ (B8)
   refine qR (fun dW=>[(46,dW)]) hF (Ap F _ _ f7 ν377 w0 w _ hlow c7 hS) ?_
   rintro dW w a ⟨ν397,g1,gJ,bF,hlow,rfl,cJ,hS⟩ hF
   replace hext:=Frz.ext_trans hext bF
   replace hA3:=hA3.mono bF.1
   replace a0:=a0.mono bF.1
   replace a8:=a8.mono bF.1
   replace a9:=a9.mono bF.1
   replace aC:=aC.mono bF.1
   replace b9:=b9.mono bF.1
   replace bD:=bD.mono bF.1
   replace bK:=bK.mono bF.1
   replace bY:=bY.mono bF.1
   replace c7:=c7.mono bF.1
   replace a1:=Frz.le_trans a1 bF.1
   replace d9:=Frz.le_trans d9 bF.1
   refine ⟨⟨St.pick [2,3,4] (by decide) hS,(hS.frz (i:=0) rfl hlow).low d9⟩,?_⟩
   refine WT.z [3,4] kr ?_
   refine qC 2 [(47,.agg #[.string aB.1,iv aE.1,iv aF.1,iv aG.1,iv aH.1,iv aI.1,iv aJ.1,iv aK.1,iv bQ.1,iv 0,.slice none 0 0]),(48,.pointer (some ⟨a2,3,none⟩))] hF A9 fun a hF=>?_
   refine WRun.fin ?_
   refine SK.wi (qS 41 3 3 (.agg #[.string aB.1,iv aE.1,iv aF.1,iv aG.1,iv aH.1,iv aI.1,iv aJ.1,iv aK.1,iv bQ.1,iv 0,.slice none 0 0]) #[iv y6.1,.string ByteArray.empty,iv 0,.string aB.1,iv aE.1,iv aF.1,iv aG.1,iv aH.1,iv aI.1,iv aJ.1,iv aK.1,iv bQ.1,iv 0,.slice none 0 0,iv 0,iv 0,iv 0,iv 0,iv 0,.slice none 0 0,.string ByteArray.empty] hF hS rfl fun w a hF hS=>?_)
   refine wfn rfl ?_
   refine esr ?_
   refine qn 1 1 [(49,pb b5)] hF fun a hF=>?_
   obtain ⟨c2,f8,h⟩:=A1 h
   refine SK.wi (qR (fun dX=>[(50,dX)]) hF (Ap F _ _ f8 ν397 w0 w _ hlow cJ hS) ?_)
   rintro dX w a ⟨ν404,g2,gK,bG,hlow,rfl,d6,hS⟩ hF
   replace hext:=Frz.ext_trans hext bG
   replace hA3:=hA3.mono bG.1
   replace a0:=a0.mono bG.1
   replace a8:=a8.mono bG.1
   replace a9:=a9.mono bG.1
   replace aC:=aC.mono bG.1
   replace b9:=b9.mono bG.1
   replace bD:=bD.mono bG.1
   replace bK:=bK.mono bG.1
   replace bY:=bY.mono bG.1
   replace c7:=c7.mono bG.1
   replace cJ:=cJ.mono bG.1
   replace a1:=Frz.le_trans a1 bG.1
   refine qn 2 4 [(50,iv c2.1),(52,.pointer (some ⟨a2,12,none⟩))] hF fun a hF=>?_
   refine SK.wi (qs 3 3 12 (iv c2.1) hF hS rfl fun w a hF hS=>?_)
   refine wfn rfl ?_
   refine Ar ?_
   refine esr ?_
   obtain ⟨fS,f9,h⟩:=A1 h
   refine qx 3 3 [(55,.bool (fS != 0))] hF (oN 38 2 0 8 hS.e rfl<|oC (fun w2 hd=>Mf F (api_Site.mk aB.1 aE.1 aF.1 aG.1 aH.1 aI.1 aJ.1 aK.1) _ f9 _ w2 (Ae w2))<|A9) fun a w hF hx=>?_
   replace hS:=hS.later hx
   refine wfn rfl ?_
   refine Ai hF rfl (fun hc=>?_) (fun hc=>?_)
   ·replace h:=Ag h hc
    refine esr ?_
    refine qn 1 1 [(56,.agg #[iv 0,.string ByteArray.empty,iv 0,.string ByteArray.empty,iv 0,iv 0,iv 0,iv 0,iv 0,iv 0,iv 0,iv 0,iv 0,.slice none 0 0,iv 0,iv 0,iv 0,iv 0,iv 0,.slice none 0 0,.string ByteArray.empty])] hF fun a hF=>?_
    refine SK.wi (qS 49 4 0 (.agg #[iv 0,.string ByteArray.empty,iv 0,.string ByteArray.empty,iv 0,iv 0,iv 0,iv 0,iv 0,iv 0,iv 0,iv 0,iv 0,.slice none 0 0,iv 0,iv 0,iv 0,iv 0,iv 0,.slice none 0 0,.string ByteArray.empty]) #[iv 0,.string ByteArray.empty,iv 0,.string ByteArray.empty,iv 0,iv 0,iv 0,iv 0,iv 0,iv 0,iv 0,iv 0,iv 0,.slice none 0 0,iv 0,iv 0,iv 0,iv 0,iv 0,.slice none 0 0,.string ByteArray.empty] hF hS rfl fun w a hF hS=>?_)
    refine qn 1 3 [(3,.bool false)] hF fun a hF=>?_
    refine wfn rfl ?_
    refine wpIn_ret (A5<|Al<|A5<|Ab [.cell 2 49,.tmp 3] [.agg #[iv 0,.string ByteArray.empty,iv 0,.string ByteArray.empty,iv 0,iv 0,iv 0,iv 0,iv 0,iv 0,iv 0,iv 0,iv 0,.slice none 0 0,iv 0,iv 0,iv 0,iv 0,iv 0,.slice none 0 0,.string ByteArray.empty],.bool false] hF rfl ⟨⟨_,rfl,De (cs:=[iv 0,.string ByteArray.empty,iv 0,.string ByteArray.empty,iv 0,iv 0,iv 0,iv 0,iv 0,iv 0,iv 0,iv 0,iv 0,.slice none 0 0,iv 0,iv 0,iv 0,iv 0,iv 0,.slice none 0 0,.string ByteArray.empty]) kr ((hS.blk (i:=4) rfl).cells rfl)⟩,rfl,trivial⟩ ?_)
    obtain rfl:=Ao h
    exact ⟨_,rfl,ν404,none,0,[],none,0,hext,rfl,ArrQ.nil,ArrM.nil,St.pick [0] (by decide) hS⟩
   ·replace h:=Af h hc
    refine wpIn_skip (A0 ?_)
    refine esr ?_
    obtain ⟨gU,eP,h⟩:=A1 h
    obtain ⟨fO,eQ,h⟩:=A1 h
    refine qo 7 7 [(57,pb b5),(63,iv fO)] hF (oL 3 2 4 hS.i rfl rfl<|oM 3 eP<|oL 3 2 5 hS.i rfl rfl<|oM 3 eQ<|A9) fun a hF=>?_
    obtain ⟨a4,fA,h⟩:=A1 h
    refine SK.wi (qR (fun dY=>[(64,dY)]) hF (Na F _ _ _ fA ν404 w0 w _ hlow d6 hS) ?_)
    rintro dY w a ⟨ν414,a5,a3,cW,cZ,bC,hlow,rfl,dJ,dK,hS⟩ hF
    replace hext:=Frz.ext_trans hext bC
    replace hA3:=hA3.mono bC.1
    replace a0:=a0.mono bC.1
    replace a8:=a8.mono bC.1
    replace a9:=a9.mono bC.1
    replace aC:=aC.mono bC.1
    replace b9:=b9.mono bC.1
    replace bD:=bD.mono bC.1
    replace bK:=bK.mono bC.1
    replace bY:=bY.mono bC.1
    replace c7:=c7.mono bC.1
    replace cJ:=cJ.mono bC.1
    replace d6:=d6.mono bC.1
    replace a1:=Frz.le_trans a1 bC.1
    refine qn 1 9 [(7,sv a5 a4.1 a3)] hF fun a hF=>?_
    refine wfn rfl ?_
    refine qnB [(8,iv 0)] hF fun a hF=>?_
    refine wpIn_block ?_
    replace hS:=hS.nilarr 87 1 (fN 1)
    refine Cq (fun n_ a w=>∃(bH:(List (List api_Echo))) (bB:Int) (bV:Option Addr) (bW:Nat) (bX:List (List Value)),Fr 161 [] [(2,pb b4),(4,pb b5),(5,pb a2),(6,pb a6),(7,sv a5 a4.1 a3),(8,iv bB)] a∧St w0 [arr 87 1 (fN 1) bV bH.length bW bX,fz w0 ν414,blk b5 135 #[sv cW a4.2.b cZ,.bool a4.2.bad],blk a6 38 #[.string aB.1,iv aE.1,iv aF.1,iv aG.1,iv aH.1,iv aI.1,iv aJ.1,iv aK.1],blk a2 49 #[iv y6.1,.string ByteArray.empty,iv 0,.string aB.1,iv aE.1,iv aF.1,iv aG.1,iv aH.1,iv aI.1,iv aJ.1,iv aK.1,iv bQ.1,iv c2.1,sv bV bH bW,iv 0,iv 0,iv 0,iv 0,iv 0,.slice none 0 0,.string ByteArray.empty],blk b4 49 #[iv 0,.string ByteArray.empty,iv 0,.string ByteArray.empty,iv 0,iv 0,iv 0,iv 0,iv 0,iv 0,iv 0,iv 0,iv 0,.slice none 0 0,iv 0,iv 0,iv 0,iv 0,iv 0,.slice none 0 0,.string ByteArray.empty]] w∧(All2 (Rp87 ν414) bX bH)∧Fv F y6 aB aE aF aG aH aI aJ aK bQ c2 a4 n_ bH bB=some res) F ⟨[],0,none,0,[],hF.sub kr,St.pick [0,1,2,3,4,5] (by decide) hS,All2.nil,h⟩ ?_
    rintro nk2 a w ⟨bH,bB,bV,bW,bX,hF,hS,dB,h⟩
    rcases nk2 with _|nk2
    ·cases (show (none:Option (ref12_Item×Bool))=some res from h)
    obtain ⟨k2,hk2⟩:∃k,k=Fv F y6 aB aE aF aG aH aI aJ aK bQ c2 a4 nk2:=⟨_,rfl⟩
    replace h:Jn F y6 aB aE aF aG aH aI aJ aK bQ c2 a4 k2 bH bB=some res:=by rw [hk2];exact h
    rw [Jn] at h
    refine Ar ?_
    refine esr ?_
    obtain ⟨e9,eR,h⟩:=A1 h
    refine qo 6 6 [(70,.bool (decide (bB<e9)))] hF (oL 3 3 4 hS.i rfl rfl<|oM 3 eR<|A9) fun a hF=>?_
    rcases Bool.eq_false_or_eq_true ((decide (bB<e9))) with cM|cM
    ·replace h:=Ag h cM
     rw [cM] at hF
     refine qo 6 12 [(76,.bool (!a4.2.bad))] hF (oX (.run [⟨70,true,true⟩] (Instr.loadAt 4 (.pointer (some ⟨b5,1,none⟩))) (.bool a4.2.bad)) (ob1 kr (fun _ hd=>(hS.at_ hd).cell (i:=2) (j:=1) rfl rfl))<|A9) fun a hF=>?_
     refine wfn rfl ?_
     refine Ai hF rfl (fun hc=>?_) (fun hc=>?_)
     ·replace h:=Ag h hc
      refine wpIn_skip (A0 ?_)
      refine Ar ?_
      refine wpIn_block ?_
      obtain ⟨a7,eS,h⟩:=A1 h
      obtain ⟨gV,eT,h⟩:=A1 h
      obtain ⟨fP,eU,h⟩:=A1 h
      obtain ⟨bI,dL,h⟩:=A1 h
      refine Cz 15 [14] _ (D:=fun w=>St w0 [arr 87 1 (fN 1) bV bH.length bW bX,blk b5 135 #[sv cW a4.2.b cZ,.bool a4.2.bad],blk a6 38 #[.string aB.1,iv aE.1,iv aF.1,iv aG.1,iv aH.1,iv aI.1,iv aJ.1,iv aK.1],blk a2 49 #[iv y6.1,.string ByteArray.empty,iv 0,.string aB.1,iv aE.1,iv aF.1,iv aG.1,iv aH.1,iv aI.1,iv aJ.1,iv aK.1,iv bQ.1,iv c2.1,sv bV bH bW,iv 0,iv 0,iv 0,iv 0,iv 0,.slice none 0 0,.string ByteArray.empty],blk b4 49 #[iv 0,.string ByteArray.empty,iv 0,.string ByteArray.empty,iv 0,iv 0,iv 0,iv 0,iv 0,iv 0,iv 0,iv 0,iv 0,.slice none 0 0,iv 0,iv 0,iv 0,iv 0,iv 0,.slice none 0 0,.string ByteArray.empty]] w∧FrzAt ν414 w) kr kr hF.size (fun w hx=>?_) (fun _ _ h=>h)
      replace hS:=hS.later hx
      refine ⟨⟨St.pick [0,2,3,4,5] (by decide) hS,hS.frz (i:=1) rfl hlow⟩,?_⟩
      have gT:=Frz.le_refl ν414
      have eK:ArrM ν414 14 api_Echo.cells (Aq a5 a3 a7.toNat 14) (a3-a7.toNat) bI:=fun w_ hw_=>(dJ w_ hw_).cutD api_Echo.cells_len dL
      refine WT.s [0,1,2,3,4,5,6,7,8,9,10,11,12,13] [14] kr kr ?_
      refine qC 14 [(81,sv bV bH bW),(92,.slice (Aq a5 a3 a7.toNat 14) bI.length (a3-a7.toNat))] hF (oL 39 3 13 (fun _ hd=>hd.1) rfl rfl<|oL 3 2 5 (fun _ hd=>hd.1) rfl rfl<|oM 3 eS<|oA 3 eT<|oL 3 2 5 (fun _ hd=>hd.1) rfl rfl<|oM 3 eU<|oX (.run [] (Instr.sliceAt 87 (sv a5 a4.1 a3) (some (iv a7)) (some (iv fP)) none) (.slice (Aq a5 a3 a7.toNat 14) bI.length (a3-a7.toNat))) (Rs kr (dJ _ (hS.frz (i:=1) rfl hlow)) (fun _=>dL))<|A9) fun a hF=>?_
      refine WRun.fin ?_
      refine all_cons ?_ (B8)
      have dN:All2 (Rp87 ν414) ([[.slice (Aq a5 a3 a7.toNat 14) bI.length (a3-a7.toNat)]]:List (List Value)) [bI]:=(All2.cons ⟨(Aq a5 a3 a7.toNat 14),(a3-a7.toNat),rfl,eK⟩ All2.nil)
      refine Sj (e:=87) (sz:=1) (f:=fN 1) (t:=39) (len:=1) (fun dF=>[(2,pb b4),(4,pb b5),(5,pb a2),(6,pb a6),(7,sv a5 a4.1 a3),(8,iv bB),(81,sv bV bH bW),(93,sb dF 1)]) #[(0,.slice (Aq a5 a3 a7.toNat 14) bI.length (a3-a7.toNat))] #[.slice (Aq a5 a3 a7.toNat 14) bI.length (a3-a7.toNat)] ([[.slice (Aq a5 a3 a7.toNat 14) bI.length (a3-a7.toNat)]]:List (List Value)) ([bI]) hF hS kr ⟨kr⟩ kr (Eg 1) rfl rfl rfl kr (fun _=>⟨kr⟩) fun dF w a hF hS=>⟨⟨St.pick [1,3,4,5,6] (by decide) hS,(hS.frz (i:=2) rfl hlow)⟩,?_⟩
      refine WT.z [] kr ?_
      refine WRun.fin ?_
      obtain ⟨cR,dM,h⟩:=A1 h
      have eO:All2 (Rp87 ν414) (bX++([[.slice (Aq a5 a3 a7.toNat 14) bI.length (a3-a7.toNat)]]:List (List Value))) cR:=by rw [(Ji dM).1];exact All2.app dB dN
      refine SK.wi (T1 (t:=39) (ty:=39) (bytes:=24) (c:=bX) (c':=([[.slice (Aq a5 a3 a7.toNat 14) bI.length (a3-a7.toNat)]]:List (List Value))) (l:=bH) (l':=([bI])) (fun cF cH=>[(2,pb b4),(4,pb b5),(5,pb a2),(6,pb a6),(7,sv a5 a4.1 a3),(8,iv bB),(94,sv cF cR cH)]) 1 hF hS rfl kr ⟨kr⟩ kr (hS.arr (i:=0) rfl) (ArrQ.one dN Rp87.one) dM (fun _ _=>⟨kr⟩) fun cF cH w a hF hS=>?_)
      refine rn 2 18 [(2,pb b4),(4,pb b5),(5,pb a2),(6,pb a6),(7,sv a5 a4.1 a3),(8,iv bB),(94,sv cF cR cH),(96,.pointer (some ⟨a2,13,none⟩))] hF fun a hF=>?_
      refine SK.wi (qs 39 5 13 (sv cF cR cH) hF hS rfl fun w a hF hS=>?_)
      refine WI.fin rfl (Aa<|A0<|?_)
      refine WI.region ?_
      obtain ⟨eA,eV,h⟩:=A1 h
      refine ro 3 3 [(2,pb b4),(4,pb b5),(5,pb a2),(6,pb a6),(7,sv a5 a4.1 a3),(8,iv eA)] hF (oA 3 eV<|A9) fun a hF=>?_
      refine wfn rfl ?_
      rw [hk2] at h
      exact ⟨nk2,Nat.lt_succ_self _,cR,eA,cF,cH,(bX++([[.slice (Aq a5 a3 a7.toNat 14) bI.length (a3-a7.toNat)]]:List (List Value))),hF.sub kr,St.pick [1,2,3,4,5,6] (by decide) hS,eO,h⟩
     ·replace h:=Af h hc
      refine wpIn_exit (A7<|A7<|Av<|Aa<|A0<|?_)
      exact ⟨ByteArray.empty,aK.1,bQ.1,c2.1,bH,0,0,0,0,0,[],0,ByteArray.empty,aB.1,aE.1,aF.1,aG.1,aH.1,aI.1,aJ.1,a4.2.b,a4.2.bad,ν414,bV,bW,bX,none,0,cW,cZ,hF.sub kr,St.pick [0,1,2,4,5] (by decide) hS,dB,ArrM.nil,dK,a1,hext,hlow,h⟩
    ·replace h:=Af h cM
     rw [cM] at hF
     refine Be 7 [(2,pb b4),(4,pb b5),(5,pb a2),(6,pb a6),(7,sv a5 a4.1 a3),(8,iv bB),(70,.bool false),(71,undef)] hF kr ⟨kr⟩ ⟨kr⟩ rfl fun a hF=>?_
     refine Be 8 [(2,pb b4),(4,pb b5),(5,pb a2),(6,pb a6),(7,sv a5 a4.1 a3),(8,iv bB),(70,.bool false),(72,undef)] hF kr ⟨kr⟩ ⟨kr⟩ rfl fun a hF=>?_
     refine Be 9 [(2,pb b4),(4,pb b5),(5,pb a2),(6,pb a6),(7,sv a5 a4.1 a3),(8,iv bB),(70,.bool false),(73,undef)] hF kr ⟨kr⟩ ⟨kr⟩ rfl fun a hF=>?_
     refine Be 10 [(2,pb b4),(4,pb b5),(5,pb a2),(6,pb a6),(7,sv a5 a4.1 a3),(8,iv bB),(70,.bool false),(74,undef)] hF kr ⟨kr⟩ ⟨kr⟩ rfl fun a hF=>?_
     refine Be 11 [(2,pb b4),(4,pb b5),(5,pb a2),(6,pb a6),(7,sv a5 a4.1 a3),(8,iv bB),(70,.bool false),(75,undef)] hF kr ⟨kr⟩ ⟨kr⟩ rfl fun a hF=>?_
     refine rn 1 12 [(2,pb b4),(4,pb b5),(5,pb a2),(6,pb a6),(7,sv a5 a4.1 a3),(8,iv bB),(76,.bool false)] hF fun a hF=>?_
     refine wfn rfl ?_
     refine wpIn_cond_false (hF.get rfl) ?_
     refine wpIn_exit (A7<|A7<|Av<|Aa<|A0<|?_)
     exact ⟨ByteArray.empty,aK.1,bQ.1,c2.1,bH,0,0,0,0,0,[],0,ByteArray.empty,aB.1,aE.1,aF.1,aG.1,aH.1,aI.1,aJ.1,a4.2.b,a4.2.bad,ν414,bV,bW,bX,none,0,cW,cZ,hF.sub kr,St.pick [0,1,2,4,5] (by decide) hS,dB,ArrM.nil,dK,a1,hext,hlow,h⟩
  ·replace h:=Af h hc
   refine qnB [(97,.bool (y6.1==2))] hF fun a hF=>?_
   refine Ai hF rfl (fun hc=>?_) (fun hc=>?_)
   ·replace h:=Ag h hc
    refine esr ?_
    refine qn 1 1 [(99,pb b5)] hF fun a hF=>?_
    obtain ⟨cS,fB,h⟩:=A1 h
    replace hS:=hS.s2.s2
    refine SK.wi (qR (fun dZ=>[(100,dZ)]) hF (J3 F _ _ fB ν7 w0 w _ hlow a0 hS) ?_)
    rintro dZ w a ⟨ν503,g3,gL,d4,hlow,rfl,bA,hS⟩ hF
    replace hext:=Frz.ext_trans hext d4
    replace hA3:=hA3.mono d4.1
    replace a0:=a0.mono d4.1
    replace a1:=Frz.le_trans a1 d4.1
    refine qn 1 3 [(100,.string cS.1),(101,.pointer (some ⟨a2,1,none⟩))] hF fun a hF=>?_
    refine SK.wi (qs 9 2 1 (.string cS.1) hF hS rfl fun w a hF hS=>?_)
    refine wfn rfl ?_
    refine esr ?_
    refine qn 1 1 [(102,pb b5)] hF fun a hF=>?_
    obtain ⟨cT,fC,h⟩:=A1 h
    refine SK.wi (qR (fun e0=>[(103,e0)]) hF (Ap F _ _ fC ν503 w0 w _ hlow bA hS) ?_)
    rintro e0 w a ⟨ν510,g4,gM,cP,hlow,rfl,bE,hS⟩ hF
    replace hext:=Frz.ext_trans hext cP
    replace hA3:=hA3.mono cP.1
    replace a0:=a0.mono cP.1
    replace bA:=bA.mono cP.1
    replace a1:=Frz.le_trans a1 cP.1
    refine qn 1 3 [(103,iv cT.1),(104,.pointer (some ⟨a2,2,none⟩))] hF fun a hF=>?_
    refine SK.wi (qs 3 2 2 (iv cT.1) hF hS rfl fun w a hF hS=>?_)
    refine wfn rfl ?_
    refine esr ?_
    refine qn 1 1 [(105,pb b5)] hF fun a hF=>?_
    obtain ⟨bN,fD,h⟩:=A1 h
    refine SK.wi (qR (fun e1=>[(106,e1)]) hF (Df F _ _ fD ν510 w0 w _ hlow bE hS) ?_)
    rintro e1 w a ⟨ν517,g5,gN,cD,hlow,rfl,bL,hS⟩ hF
    replace hext:=Frz.ext_trans hext cD
    replace hA3:=hA3.mono cD.1
    replace a0:=a0.mono cD.1
    replace bA:=bA.mono cD.1
    replace bE:=bE.mono cD.1
    replace a1:=Frz.le_trans a1 cD.1
    refine qn 1 3 [(107,.agg #[iv bN.1,iv 0,iv 0,iv 0,iv 0])] hF fun a hF=>?_
    refine SK.wi (qA 43 #[iv 0,iv 0,iv 0,iv 0,iv 0] (fun c3=>[(9,pb c3)]) hF hS fun c3 w a hF hS=>?_)
    refine SK.wi (qS 43 0 0 (.agg #[iv bN.1,iv 0,iv 0,iv 0,iv 0]) #[iv bN.1,iv 0,iv 0,iv 0,iv 0] hF hS rfl fun w a hF hS=>?_)
    refine wfn rfl ?_
    refine esr ?_
    refine qn 1 1 [(108,pb b5)] hF fun a hF=>?_
    obtain ⟨bR,fE,h⟩:=A1 h
    replace hS:=hS.s2.s2
    refine SK.wi (qR (fun e2=>[(109,e2)]) hF (Df F _ _ fE ν517 w0 w _ hlow bL hS) ?_)
    rintro e2 w a ⟨ν525,g6,gO,cB,hlow,rfl,bZ,hS⟩ hF
    replace hext:=Frz.ext_trans hext cB
    replace hA3:=hA3.mono cB.1
    replace a0:=a0.mono cB.1
    replace bA:=bA.mono cB.1
    replace bE:=bE.mono cB.1
    replace bL:=bL.mono cB.1
    replace a1:=Frz.le_trans a1 cB.1
    refine qn 1 3 [(109,iv bR.1),(110,.pointer (some ⟨c3,1,none⟩))] hF fun a hF=>?_
    refine SK.wi (qs 3 2 1 (iv bR.1) hF hS rfl fun w a hF hS=>?_)
    refine wfn rfl ?_
    refine esr ?_
    refine qn 1 1 [(111,pb b5)] hF fun a hF=>?_
    obtain ⟨bS,fF,h⟩:=A1 h
    refine SK.wi (qR (fun e3=>[(112,e3)]) hF (Ap F _ _ fF ν525 w0 w _ hlow bZ hS) ?_)
    rintro e3 w a ⟨ν532,g7,gP,c5,hlow,rfl,c8,hS⟩ hF
    replace hext:=Frz.ext_trans hext c5
    replace hA3:=hA3.mono c5.1
    replace a0:=a0.mono c5.1
    replace bA:=bA.mono c5.1
    replace bE:=bE.mono c5.1
    replace bL:=bL.mono c5.1
    replace bZ:=bZ.mono c5.1
    replace a1:=Frz.le_trans a1 c5.1
    refine qn 1 3 [(112,iv bS.1),(113,.pointer (some ⟨c3,2,none⟩))] hF fun a hF=>?_
    refine SK.wi (qs 3 2 2 (iv bS.1) hF hS rfl fun w a hF hS=>?_)
    refine wfn rfl ?_
    refine esr ?_
    refine qn 1 1 [(114,pb b5)] hF fun a hF=>?_
    obtain ⟨bT,fG,h⟩:=A1 h
    refine SK.wi (qR (fun e4=>[(115,e4)]) hF (Ap F _ _ fG ν532 w0 w _ hlow c8 hS) ?_)
    rintro e4 w a ⟨ν539,g8,gQ,c1,hlow,rfl,cK,hS⟩ hF
    replace hext:=Frz.ext_trans hext c1
    replace hA3:=hA3.mono c1.1
    replace a0:=a0.mono c1.1
    replace bA:=bA.mono c1.1
    replace bE:=bE.mono c1.1
    replace bL:=bL.mono c1.1
    replace bZ:=bZ.mono c1.1
    replace c8:=c8.mono c1.1
    replace a1:=Frz.le_trans a1 c1.1
    refine rn 1 3 [(2,pb b4),(4,pb b5),(5,pb a2),(9,pb c3),(115,iv bT.1),(116,.pointer (some ⟨c3,3,none⟩))] hF fun a hF=>?_
    refine SK.wi (qs 3 2 3 (iv bT.1) hF hS rfl fun w a hF hS=>?_)
    refine wfn rfl ?_
    refine esr ?_
    refine qn 1 1 [(117,pb b5)] hF fun a hF=>?_
    obtain ⟨bU,fH,h⟩:=A1 h
    refine SK.wi (qR (fun e5=>[(118,e5)]) hF (Ap F _ _ fH ν539 w0 w _ hlow cK hS) ?_)
    rintro e5 w a ⟨ν546,g9,gR,bP,hlow,rfl,d7,hS⟩ hF
    replace hext:=Frz.ext_trans hext bP
    replace hA3:=hA3.mono bP.1
    replace a0:=a0.mono bP.1
    replace bA:=bA.mono bP.1
    replace bE:=bE.mono bP.1
    replace bL:=bL.mono bP.1
    replace bZ:=bZ.mono bP.1
    replace c8:=c8.mono bP.1
    replace cK:=cK.mono bP.1
    replace a1:=Frz.le_trans a1 bP.1
    refine qn 1 3 [(118,iv bU.1),(119,.pointer (some ⟨c3,4,none⟩))] hF fun a hF=>?_
    refine SK.wi (qs 3 2 4 (iv bU.1) hF hS rfl fun w a hF hS=>?_)
    refine wfn rfl ?_
    refine Ar ?_
    refine esr ?_
    refine qx 3 3 [(122,.bool ((Bq (api_Grid.mk bN.1 bR.1 bS.1 bT.1 bU.1)) != 0))] hF (oN 43 2 0 5 hS.e rfl<|oC (fun w2 hd=>Me (api_Grid.mk bN.1 bR.1 bS.1 bT.1 bU.1) _ rfl _ w2 (Ae w2))<|A9) fun a w hF hx=>?_
    replace hS:=hS.later hx
    refine wfn rfl ?_
    refine Ai hF rfl (fun hc=>?_) (fun hc=>?_)
    ·replace h:=Ag h hc
     refine esr ?_
     refine qn 1 1 [(123,.agg #[iv 0,.string ByteArray.empty,iv 0,.string ByteArray.empty,iv 0,iv 0,iv 0,iv 0,iv 0,iv 0,iv 0,iv 0,iv 0,.slice none 0 0,iv 0,iv 0,iv 0,iv 0,iv 0,.slice none 0 0,.string ByteArray.empty])] hF fun a hF=>?_
     refine SK.wi (qS 49 4 0 (.agg #[iv 0,.string ByteArray.empty,iv 0,.string ByteArray.empty,iv 0,iv 0,iv 0,iv 0,iv 0,iv 0,iv 0,iv 0,iv 0,.slice none 0 0,iv 0,iv 0,iv 0,iv 0,iv 0,.slice none 0 0,.string ByteArray.empty]) #[iv 0,.string ByteArray.empty,iv 0,.string ByteArray.empty,iv 0,iv 0,iv 0,iv 0,iv 0,iv 0,iv 0,iv 0,iv 0,.slice none 0 0,iv 0,iv 0,iv 0,iv 0,iv 0,.slice none 0 0,.string ByteArray.empty] hF hS rfl fun w a hF hS=>?_)
     refine qn 1 3 [(3,.bool false)] hF fun a hF=>?_
     refine wfn rfl ?_
     refine wpIn_ret (A5<|Al<|A5<|Ab [.cell 2 49,.tmp 3] [.agg #[iv 0,.string ByteArray.empty,iv 0,.string ByteArray.empty,iv 0,iv 0,iv 0,iv 0,iv 0,iv 0,iv 0,iv 0,iv 0,.slice none 0 0,iv 0,iv 0,iv 0,iv 0,iv 0,.slice none 0 0,.string ByteArray.empty],.bool false] hF rfl ⟨⟨_,rfl,De (cs:=[iv 0,.string ByteArray.empty,iv 0,.string ByteArray.empty,iv 0,iv 0,iv 0,iv 0,iv 0,iv 0,iv 0,iv 0,iv 0,.slice none 0 0,iv 0,iv 0,iv 0,iv 0,iv 0,.slice none 0 0,.string ByteArray.empty]) kr ((hS.blk (i:=4) rfl).cells rfl)⟩,rfl,trivial⟩ ?_)
     obtain rfl:=Ao h
     exact ⟨_,rfl,ν546,none,0,[],none,0,hext,rfl,ArrQ.nil,ArrM.nil,St.pick [0] (by decide) hS⟩
    ·replace h:=Af h hc
     refine wpIn_skip (A0 ?_)
     obtain ⟨fQ,eW,h⟩:=A1 h
     obtain ⟨cE,fI,h⟩:=A1 h
     refine Cz 10 [7] _ (D:=fun w=>St w0 [blk c3 43 #[iv bN.1,iv bR.1,iv bS.1,iv bT.1,iv bU.1],blk a2 49 #[iv y6.1,.string cS.1,iv cT.1,.string ByteArray.empty,iv 0,iv 0,iv 0,iv 0,iv 0,iv 0,iv 0,iv 0,iv 0,.slice none 0 0,iv 0,iv 0,iv 0,iv 0,iv 0,.slice none 0 0,.string ByteArray.empty],blk b4 49 #[iv 0,.string ByteArray.empty,iv 0,.string ByteArray.empty,iv 0,iv 0,iv 0,iv 0,iv 0,iv 0,iv 0,iv 0,iv 0,.slice none 0 0,iv 0,iv 0,iv 0,iv 0,iv 0,.slice none 0 0,.string ByteArray.empty]] w∧FrzAt ν546 w) kr kr hF.size (fun w hx=>?_) (fun _ _ h=>h)
     replace hS:=hS.later hx
     refine ⟨⟨St.pick [2,3,4] (by decide) hS,hS.frz (i:=0) rfl hlow⟩,?_⟩
     have dA:=Frz.le_refl ν546
     refine WT.s [0,1,2,3,4,5,6] [7] kr kr ?_
     refine qC 7 [(124,.agg #[iv bN.1,iv bR.1,iv bS.1,iv bT.1,iv bU.1]),(125,pb b5),(130,iv fQ)] hF (oN 43 0 0 5 (fun _ hd=>hd.1) rfl<|oL 3 0 3 (fun _ hd=>hd.1) rfl rfl<|oL 3 0 4 (fun _ hd=>hd.1) rfl rfl<|oM 3 eW<|A9) fun a hF=>?_
     refine WRun.fin ?_
     refine all_cons ?_ (B8)
     refine qR (fun e6=>[(131,e6)]) hF (P0 F _ _ _ fI ν546 w0 w _ hlow d7 hS) ?_
     rintro e6 w a ⟨ν573,cX,d0,eD,eG,bJ,hlow,rfl,eL,eM,hS⟩ hF
     replace hext:=Frz.ext_trans hext bJ
     replace hA3:=hA3.mono bJ.1
     replace a0:=a0.mono bJ.1
     replace bA:=bA.mono bJ.1
     replace bE:=bE.mono bJ.1
     replace bL:=bL.mono bJ.1
     replace bZ:=bZ.mono bJ.1
     replace c8:=c8.mono bJ.1
     replace cK:=cK.mono bJ.1
     replace d7:=d7.mono bJ.1
     replace a1:=Frz.le_trans a1 bJ.1
     replace dA:=Frz.le_trans dA bJ.1
     refine ⟨⟨St.pick [2,3,4] (by decide) hS,(hS.frz (i:=0) rfl hlow).low dA⟩,?_⟩
     refine WT.z [8,9] kr ?_
     refine qC 2 [(132,.agg #[iv bN.1,iv bR.1,iv bS.1,iv bT.1,iv bU.1,sv cX cE.1 d0]),(133,.pointer (some ⟨a2,14,none⟩))] hF A9 fun a hF=>?_
     refine WRun.fin ?_
     refine SK.wi (qS 46 3 14 (.agg #[iv bN.1,iv bR.1,iv bS.1,iv bT.1,iv bU.1,sv cX cE.1 d0]) #[iv y6.1,.string cS.1,iv cT.1,.string ByteArray.empty,iv 0,iv 0,iv 0,iv 0,iv 0,iv 0,iv 0,iv 0,iv 0,.slice none 0 0,iv bN.1,iv bR.1,iv bS.1,iv bT.1,iv bU.1,sv cX cE.1 d0,.string ByteArray.empty] hF hS rfl fun w a hF hS=>?_)
     refine WI.fin rfl (Aa<|A0<|?_)
     replace hS:=hS.nilarr 87 1 (fN 1)
     exact ⟨cS.1,0,0,0,[],bN.1,bR.1,bS.1,bT.1,bU.1,cE.1,cT.1,ByteArray.empty,ByteArray.empty,0,0,0,0,0,0,cE.2.b,cE.2.bad,ν573,none,0,[],cX,d0,eD,eG,hF.sub kr,St.pick [0,1,2,4,5] (by decide) hS,All2.nil,eL,eM,a1,hext,hlow,h⟩
   ·replace h:=Af h hc
    refine qnB [(134,.bool (y6.1==3))] hF fun a hF=>?_
    refine Ai hF rfl (fun hc=>?_) (fun hc=>?_)
    ·replace h:=Ag h hc
     refine esr ?_
     refine qn 1 1 [(136,pb b5)] hF fun a hF=>?_
     obtain ⟨dC,fJ,h⟩:=A1 h
     replace hS:=hS.s2.s2
     refine SK.wi (qR (fun e7=>[(137,e7)]) hF (Ap F _ _ fJ ν7 w0 w _ hlow a0 hS) ?_)
     rintro e7 w a ⟨ν583,gA,gS,d5,hlow,rfl,d8,hS⟩ hF
     replace hext:=Frz.ext_trans hext d5
     replace hA3:=hA3.mono d5.1
     replace a0:=a0.mono d5.1
     replace a1:=Frz.le_trans a1 d5.1
     refine qn 1 3 [(137,iv dC.1),(138,.pointer (some ⟨a2,2,none⟩))] hF fun a hF=>?_
     refine SK.wi (qs 3 2 2 (iv dC.1) hF hS rfl fun w a hF hS=>?_)
     refine wfn rfl ?_
     refine WI.region ?_
     refine qn 1 1 [(139,pb b5)] hF fun a hF=>?_
     obtain ⟨cU,fL,h⟩:=A1 h
     refine SK.wi (qR (fun e8=>[(140,e8)]) hF (J3 F _ _ fL ν583 w0 w _ hlow d8 hS) ?_)
     rintro e8 w a ⟨ν590,eE,eH,cQ,hlow,rfl,eN,hS⟩ hF
     replace hext:=Frz.ext_trans hext cQ
     replace hA3:=hA3.mono cQ.1
     replace a0:=a0.mono cQ.1
     replace d8:=d8.mono cQ.1
     replace a1:=Frz.le_trans a1 cQ.1
     refine qn 1 3 [(140,.string cU.1),(141,.pointer (some ⟨a2,20,none⟩))] hF fun a hF=>?_
     refine SK.wi (qs 9 2 20 (.string cU.1) hF hS rfl fun w a hF hS=>?_)
     refine WI.fin rfl (Aa<|A0<|?_)
     replace hS:=hS.nilarr 87 1 (fN 1)
     exact ⟨ByteArray.empty,0,0,0,[],0,0,0,0,0,[],dC.1,cU.1,ByteArray.empty,0,0,0,0,0,0,cU.2.b,cU.2.bad,ν590,none,0,[],none,0,eE,eH,hF.sub kr,St.pick [0,1,2,3,4] (by decide) hS,All2.nil,ArrM.nil,eN,a1,hext,hlow,h⟩
    ·replace h:=Af h hc
     refine wpIn_skip (Aa<|A0<|?_)
     replace hS:=hS.nilarr 87 1 (fN 1)
     exact ⟨ByteArray.empty,0,0,0,[],0,0,0,0,0,[],0,ByteArray.empty,ByteArray.empty,0,0,0,0,0,0,y6.2.b,y6.2.bad,ν7,none,0,[],none,0,eC,eF,hF.sub kr,St.pick [0,2,3,1,4] (by decide) hS,All2.nil,ArrM.nil,a0,a1,hext,hlow,h⟩
 clear a1
 rintro a w ⟨aL,aO,aP,aQ,aA,aR,aS,aT,aU,aV,aD,aW,aM,aN,aX,aY,aZ,b0,b1,b2,c6,cG,ν284,b3,b7,d1,b6,b8,cV,cY,hF,hS,cN,cI,dI,d2,hext,hlow,h⟩
 replace hA3:=hA3.mono d2
 replace a0:=a0.mono d2
 rw [Ct] at h
 refine Ar ?_
 refine esr ?_
 refine qo 5 5 [(146,.bool cG)] hF (oL 4 2 1 hS.i rfl rfl<|A9) fun a hF=>?_
 rcases Bool.eq_false_or_eq_true (cG) with cL|cL
 ·replace h:=Ag h cL
  rw [cL] at hF
  refine Be 6 [(2,pb b4),(5,pb a2),(146,.bool true),(147,undef)] hF kr ⟨kr⟩ ⟨kr⟩ rfl fun a hF=>?_
  refine Be 7 [(2,pb b4),(5,pb a2),(146,.bool true),(148,undef)] hF kr ⟨kr⟩ ⟨kr⟩ rfl fun a hF=>?_
  refine Be 8 [(2,pb b4),(5,pb a2),(146,.bool true),(149,undef)] hF kr ⟨kr⟩ ⟨kr⟩ rfl fun a hF=>?_
  refine Be 9 [(2,pb b4),(5,pb a2),(146,.bool true),(150,undef)] hF kr ⟨kr⟩ ⟨kr⟩ rfl fun a hF=>?_
  refine Be 10 [(2,pb b4),(5,pb a2),(146,.bool true),(151,undef)] hF kr ⟨kr⟩ ⟨kr⟩ rfl fun a hF=>?_
  refine Be 11 [(2,pb b4),(5,pb a2),(146,.bool true),(152,undef)] hF kr ⟨kr⟩ ⟨kr⟩ rfl fun a hF=>?_
  obtain ⟨fR,eX,h⟩:=A1 h
  refine rX 6 17 [(2,pb b4),(5,pb a2),(158,.bool true)] hF (oX (.run [⟨154,false,true⟩] (Instr.loadAt 49 (pb a2)) (.agg #[iv y6.1,.string aL,iv aW,.string aN,iv aX,iv aY,iv aZ,iv b0,iv b1,iv b2,iv aO,iv aP,iv aQ,sv b3 aA b7,iv aR,iv aS,iv aT,iv aU,iv aV,sv b6 aD b8,.string aM])) (obN (us:=[iv y6.1,.string aL,iv aW,.string aN,iv aX,iv aY,iv aZ,iv b0,iv b1,iv b2,iv aO,iv aP,iv aQ,sv b3 aA b7,iv aR,iv aS,iv aT,iv aU,iv aV,sv b6 aD b8,.string aM]) kr (fun _ hd=>((hS.later hd).blk (i:=3) rfl).cells rfl))<|oX (.call [⟨154,false,true⟩] 20 #[.agg #[iv y6.1,.string aL,iv aW,.string aN,iv aX,iv aY,iv aZ,iv b0,iv b1,iv b2,iv aO,iv aP,iv aQ,sv b3 aA b7,iv aR,iv aS,iv aT,iv aU,iv aV,sv b6 aD b8,.string aM]] (iv fR)) (show Ob.ok _ Ext _ _ from fun hk w2 hd=>Q1 F (ref12_Item.mk y6.1 aL aW (api_Sweep.mk (api_Site.mk aN aX aY aZ b0 b1 b2 aO) aP aQ aA) (api_Field.mk (api_Grid.mk aR aS aT aU aV) aD) aM) _ ((fun hk=>C9 eX hk) hk) _ w2 (Ae w2) (ArrQ.of_own ((hS.later hd).arr (i:=0) rfl) cN Rp87.mono (FrzAt.le_mem ((hS.later hd).frz (i:=1) rfl hlow))) (cI.mono (FrzAt.le_mem ((hS.later hd).frz (i:=1) rfl hlow))))<|A9) fun a w hF hx=>?_
  replace hS:=hS.later hx
  refine wfn rfl ?_
  refine wpIn_cond_true (hF.get rfl) ?_
  refine esr ?_
  refine qn 1 1 [(159,.agg #[iv 0,.string ByteArray.empty,iv 0,.string ByteArray.empty,iv 0,iv 0,iv 0,iv 0,iv 0,iv 0,iv 0,iv 0,iv 0,.slice none 0 0,iv 0,iv 0,iv 0,iv 0,iv 0,.slice none 0 0,.string ByteArray.empty])] hF fun a hF=>?_
  refine SK.wi (qS 49 4 0 (.agg #[iv 0,.string ByteArray.empty,iv 0,.string ByteArray.empty,iv 0,iv 0,iv 0,iv 0,iv 0,iv 0,iv 0,iv 0,iv 0,.slice none 0 0,iv 0,iv 0,iv 0,iv 0,iv 0,.slice none 0 0,.string ByteArray.empty]) #[iv 0,.string ByteArray.empty,iv 0,.string ByteArray.empty,iv 0,iv 0,iv 0,iv 0,iv 0,iv 0,iv 0,iv 0,iv 0,.slice none 0 0,iv 0,iv 0,iv 0,iv 0,iv 0,.slice none 0 0,.string ByteArray.empty] hF hS rfl fun w a hF hS=>?_)
  refine qn 1 3 [(3,.bool false)] hF fun a hF=>?_
  refine wfn rfl ?_
  refine wpIn_ret (A5<|Ab [.cell 2 49,.tmp 3] [.agg #[iv 0,.string ByteArray.empty,iv 0,.string ByteArray.empty,iv 0,iv 0,iv 0,iv 0,iv 0,iv 0,iv 0,iv 0,iv 0,.slice none 0 0,iv 0,iv 0,iv 0,iv 0,iv 0,.slice none 0 0,.string ByteArray.empty],.bool false] hF rfl ⟨⟨_,rfl,De (cs:=[iv 0,.string ByteArray.empty,iv 0,.string ByteArray.empty,iv 0,iv 0,iv 0,iv 0,iv 0,iv 0,iv 0,iv 0,iv 0,.slice none 0 0,iv 0,iv 0,iv 0,iv 0,iv 0,.slice none 0 0,.string ByteArray.empty]) kr ((hS.blk (i:=4) rfl).cells rfl)⟩,rfl,trivial⟩ ?_)
  obtain rfl:=Ao h
  exact ⟨_,rfl,ν284,none,0,[],none,0,hext,rfl,ArrQ.nil,ArrM.nil,St.pick [1] (by decide) hS⟩
 ·replace h:=Af h cL
  rw [cL] at hF
  obtain ⟨eB,eY,h⟩:=A1 h
  refine qx 12 17 [(158,.bool (bif (decide ((ln c6)>0)) then true else (eB != 0)))] hF (oX (.run [⟨146,false,false⟩] (Instr.loadAt 22 (pb b5)) (sv cV c6 cY)) (ob1 kr (fun _ hd=>(hS.later hd).cell (i:=2) (j:=0) rfl rfl))<|oX (.run [⟨154,false,(decide ((ln c6)>0))⟩] (Instr.loadAt 49 (pb a2)) (.agg #[iv y6.1,.string aL,iv aW,.string aN,iv aX,iv aY,iv aZ,iv b0,iv b1,iv b2,iv aO,iv aP,iv aQ,sv b3 aA b7,iv aR,iv aS,iv aT,iv aU,iv aV,sv b6 aD b8,.string aM])) (obN (us:=[iv y6.1,.string aL,iv aW,.string aN,iv aX,iv aY,iv aZ,iv b0,iv b1,iv b2,iv aO,iv aP,iv aQ,sv b3 aA b7,iv aR,iv aS,iv aT,iv aU,iv aV,sv b6 aD b8,.string aM]) kr (fun _ hd=>((hS.later hd).blk (i:=3) rfl).cells rfl))<|oX (.call [⟨154,false,(decide ((ln c6)>0))⟩] 20 #[.agg #[iv y6.1,.string aL,iv aW,.string aN,iv aX,iv aY,iv aZ,iv b0,iv b1,iv b2,iv aO,iv aP,iv aQ,sv b3 aA b7,iv aR,iv aS,iv aT,iv aU,iv aV,sv b6 aD b8,.string aM]] (iv eB)) (show Ob.ok _ Ext _ _ from fun hk w2 hd=>Q1 F (ref12_Item.mk y6.1 aL aW (api_Sweep.mk (api_Site.mk aN aX aY aZ b0 b1 b2 aO) aP aQ aA) (api_Field.mk (api_Grid.mk aR aS aT aU aV) aD) aM) _ ((fun hk=>C9 eY hk) hk) _ w2 (Ae w2) (ArrQ.of_own ((hS.later hd).arr (i:=0) rfl) cN Rp87.mono (FrzAt.le_mem ((hS.later hd).frz (i:=1) rfl hlow))) (cI.mono (FrzAt.le_mem ((hS.later hd).frz (i:=1) rfl hlow))))<|A9) fun a w hF hx=>?_
  replace hS:=hS.later hx
  refine wfn rfl ?_
  refine Ai hF rfl (fun hc=>?_) (fun hc=>?_)
  ·replace h:=Ag h hc
   refine esr ?_
   refine qn 1 1 [(159,.agg #[iv 0,.string ByteArray.empty,iv 0,.string ByteArray.empty,iv 0,iv 0,iv 0,iv 0,iv 0,iv 0,iv 0,iv 0,iv 0,.slice none 0 0,iv 0,iv 0,iv 0,iv 0,iv 0,.slice none 0 0,.string ByteArray.empty])] hF fun a hF=>?_
   refine SK.wi (qS 49 4 0 (.agg #[iv 0,.string ByteArray.empty,iv 0,.string ByteArray.empty,iv 0,iv 0,iv 0,iv 0,iv 0,iv 0,iv 0,iv 0,iv 0,.slice none 0 0,iv 0,iv 0,iv 0,iv 0,iv 0,.slice none 0 0,.string ByteArray.empty]) #[iv 0,.string ByteArray.empty,iv 0,.string ByteArray.empty,iv 0,iv 0,iv 0,iv 0,iv 0,iv 0,iv 0,iv 0,iv 0,.slice none 0 0,iv 0,iv 0,iv 0,iv 0,iv 0,.slice none 0 0,.string ByteArray.empty] hF hS rfl fun w a hF hS=>?_)
   refine qn 1 3 [(3,.bool false)] hF fun a hF=>?_
   refine wfn rfl ?_
   refine wpIn_ret (A5<|Ab [.cell 2 49,.tmp 3] [.agg #[iv 0,.string ByteArray.empty,iv 0,.string ByteArray.empty,iv 0,iv 0,iv 0,iv 0,iv 0,iv 0,iv 0,iv 0,iv 0,.slice none 0 0,iv 0,iv 0,iv 0,iv 0,iv 0,.slice none 0 0,.string ByteArray.empty],.bool false] hF rfl ⟨⟨_,rfl,De (cs:=[iv 0,.string ByteArray.empty,iv 0,.string ByteArray.empty,iv 0,iv 0,iv 0,iv 0,iv 0,iv 0,iv 0,iv 0,iv 0,.slice none 0 0,iv 0,iv 0,iv 0,iv 0,iv 0,.slice none 0 0,.string ByteArray.empty]) kr ((hS.blk (i:=4) rfl).cells rfl)⟩,rfl,trivial⟩ ?_)
   obtain rfl:=Ao h
   exact ⟨_,rfl,ν284,none,0,[],none,0,hext,rfl,ArrQ.nil,ArrM.nil,St.pick [1] (by decide) hS⟩
  ·replace h:=Af h hc
   refine wpIn_skip (A0 ?_)
   refine esr ?_
   refine qo 1 1 [(160,.agg #[iv y6.1,.string aL,iv aW,.string aN,iv aX,iv aY,iv aZ,iv b0,iv b1,iv b2,iv aO,iv aP,iv aQ,sv b3 aA b7,iv aR,iv aS,iv aT,iv aU,iv aV,sv b6 aD b8,.string aM])] hF (oN 49 3 0 21 hS.i rfl<|A9) fun a hF=>?_
   refine SK.wi (qS 49 4 0 (.agg #[iv y6.1,.string aL,iv aW,.string aN,iv aX,iv aY,iv aZ,iv b0,iv b1,iv b2,iv aO,iv aP,iv aQ,sv b3 aA b7,iv aR,iv aS,iv aT,iv aU,iv aV,sv b6 aD b8,.string aM]) #[iv y6.1,.string aL,iv aW,.string aN,iv aX,iv aY,iv aZ,iv b0,iv b1,iv b2,iv aO,iv aP,iv aQ,sv b3 aA b7,iv aR,iv aS,iv aT,iv aU,iv aV,sv b6 aD b8,.string aM] hF hS rfl fun w a hF hS=>?_)
   refine qn 1 3 [(3,.bool true)] hF fun a hF=>?_
   refine wfn rfl ?_
   refine wpIn_ret (Ab [.cell 2 49,.tmp 3] [.agg #[iv y6.1,.string aL,iv aW,.string aN,iv aX,iv aY,iv aZ,iv b0,iv b1,iv b2,iv aO,iv aP,iv aQ,sv b3 aA b7,iv aR,iv aS,iv aT,iv aU,iv aV,sv b6 aD b8,.string aM],.bool true] hF rfl ⟨⟨_,rfl,De (cs:=[iv y6.1,.string aL,iv aW,.string aN,iv aX,iv aY,iv aZ,iv b0,iv b1,iv b2,iv aO,iv aP,iv aQ,sv b3 aA b7,iv aR,iv aS,iv aT,iv aU,iv aV,sv b6 aD b8,.string aM]) kr ((hS.blk (i:=4) rfl).cells rfl)⟩,rfl,trivial⟩ ?_)
   obtain ⟨ν321,c9,hlow,hS,fM⟩:=hS.freeze (i:=1) (j:=0) rfl rfl (by decide) hlow
   replace hA3:=hA3.mono c9.1
   replace a0:=a0.mono c9.1
   replace cN:=All2.mono Rp87.mono c9.1 cN
   replace cI:=cI.mono c9.1
   replace dI:=dI.mono c9.1
   replace d2:=Frz.le_trans d2 c9.1
   replace hext:=Frz.ext_trans hext c9
   have eJ:=ArrQ.of_arr (l:=aA) fM cN Rp87.mono (Frz.le_refl _)
   obtain rfl:=Ao h
   exact ⟨_,rfl,ν321,b3,b7,d1,b6,b8,hext,rfl,eJ,cI,St.pick [0] (by decide) hS⟩
end Go.Proofs.YtifbomimeodibaaGreat
