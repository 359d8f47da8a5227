import Derived.Test.YtifbomimeodibaaGreatV3XD
import Derived.Test.YtifbomimeodibaaGreatProg
import Derived.Test.YtifbomimeodibaaGreatV3XW1
import Derived.Test.YtifbomimeodibaaGreatV3XW2
import Derived.Test.YtifbomimeodibaaGreatV3XW4
import Derived.Test.YtifbomimeodibaaGreatV3XW5
namespace Go.Proofs.YtifbomimeodibaaGreat
open Go Go.RowKit Go.Eng
set_option maxRecDepth 10000
set_option maxHeartbeats 4000000
set_option linter.unusedVariables false
set_option linter.unusedSimpArgs false
theorem P1 (F:Nat) (p0:volume_reader) (res:Except (Value×volume_reader) (api_Echo×volume_reader)) (h:Fg F p0=some res) (μ:Frz) (w0 w1:World) (T_:List Res) (hlow:Ay w0 μ) {cb0:Nat} {ad1:Option Addr} {cap2:Nat} (hA3:ArrM μ 1 (fK .u8) ad1 cap2 p0.b) (hS:St w0 (fz w0 μ::blk cb0 125 #[sv ad1 p0.b cap2]::T_) w1):Nl Tryz.prog 95 #[pb cb0] w1 res (fun r_ e w=>∃(ν_:Frz) (aW:Option Addr) (aY:Nat),μ.ext w0.heap.size ν_∧Ay w0 ν_∧e=(r_.1.ag)∧(ArrM ν_ 1 (fK .u8) aW aY r_.2.b)∧St w0 (fz w0 ν_::blk cb0 125 #[sv aW r_.2.b aY]::T_) w) (fun e_ w=>∃(ν_:Frz) (aX:Option Addr) (aZ:Nat),μ.ext w0.heap.size ν_∧Ay w0 ν_∧(ArrM ν_ 1 (fK .u8) aX aZ e_.b)∧St w0 (fz w0 ν_::blk cb0 125 #[sv aX e_.b aZ]::T_) w):=by
 rw [Fg] at h
 have hext:=Frz.ext_refl w0.heap.size μ
 refine Ah Tryz.func95 rfl 42 [(0,pb cb0)] rfl rfl kr fun a w hw hF=>?_
 replace hS:=hS.cast hw
 clear hw
 refine esr ?_
 refine SK.wi (qA 149 #[iv 0,iv 0,iv 0,iv 0,iv 0,iv 0,iv 0,iv 0,iv 0,iv 0,iv 0,iv 0,iv 0,iv 0] (fun b4=>[(2,pb b4)]) hF hS fun b4 w a hF hS=>?_)
 refine wfn rfl ?_
 refine esr ?_
 refine qn 1 1 [(4,pb cb0)] hF fun a hF=>?_
 obtain ⟨y5,hy5,h⟩:=A1 h
 replace hS:=hS.s2.s2
 refine Dp (fun b1=>[(0,pb cb0),(2,pb b4),(5,b1)]) hF kr ⟨kr⟩ (An F _ _ hy5 μ w0 w _ hlow hA3 hS) (fun _=>⟨kr⟩) ?_ ?_
 ·rintro e7 w he_ ⟨ν14,bF,bR,b0,hlow,c3,hS⟩
  replace h:=G6 h he_
  replace hext:=Frz.ext_trans hext b0
  replace hA3:=hA3.mono b0.1
  refine A6<|Az hF ?_
  obtain rfl:=Ao h
  replace hS:=hS.d2
  exact .inr ⟨_,rfl,rfl,ν14,bF,bR,hext,hlow,c3,hS⟩
 rintro y6 b1 w a he_ ⟨ν8,cI,cP,hx9,hlow,rfl,a2,hS⟩ hF
 replace h:=G7 h he_
 replace hext:=Frz.ext_trans hext hx9
 replace hA3:=hA3.mono hx9.1
 refine rn 1 3 [(0,pb cb0),(2,pb b4),(6,.agg #[iv y6.1,iv 0,iv 0,iv 0,iv 0,iv 0,iv 0,iv 0,iv 0,iv 0,iv 0,iv 0,iv 0,iv 0])] hF fun a hF=>?_
 refine SK.wi (qA 149 #[iv 0,iv 0,iv 0,iv 0,iv 0,iv 0,iv 0,iv 0,iv 0,iv 0,iv 0,iv 0,iv 0,iv 0] (fun a4=>[(3,pb a4)]) hF hS fun a4 w a hF hS=>?_)
 refine SK.wi (qS 149 0 0 (.agg #[iv y6.1,iv 0,iv 0,iv 0,iv 0,iv 0,iv 0,iv 0,iv 0,iv 0,iv 0,iv 0,iv 0,iv 0]) #[iv y6.1,iv 0,iv 0,iv 0,iv 0,iv 0,iv 0,iv 0,iv 0,iv 0,iv 0,iv 0,iv 0,iv 0] hF hS rfl fun w a hF hS=>?_)
 refine wfn rfl ?_
 refine Ar ?_
 refine qoB [(9,.bool (y6.1==1))] hF (oL 3 0 0 hS.i rfl rfl<|A9) fun a hF=>?_
 refine Ai hF rfl (fun hc=>?_) (fun hc=>?_)
 ·replace h:=Ag h hc
  refine esr ?_
  refine qn 1 1 [(10,pb cb0)] hF fun a hF=>?_
  obtain ⟨d6,cC,h⟩:=A1 h
  replace hS:=hS.s2.s2
  refine Dp (fun b5=>[(2,pb b4),(3,pb a4),(11,b5)]) hF kr ⟨kr⟩ (An F _ _ cC ν8 w0 w _ hlow a2 hS) (fun _=>⟨kr⟩) ?_ ?_
  ·rintro cW w he_ ⟨ν29,bH,bT,aT,hlow,c5,hS⟩
   replace h:=G6 h he_
   replace hext:=Frz.ext_trans hext aT
   replace hA3:=hA3.mono aT.1
   replace a2:=a2.mono aT.1
   refine A6<|A6<|Az hF ?_
   obtain rfl:=Ao h
   replace hS:=hS.d3.d2
   exact .inr ⟨_,rfl,rfl,ν29,bH,bT,hext,hlow,c5,hS⟩
  rintro aK b5 w a he_ ⟨ν23,bG,bS,aS,hlow,rfl,c4,hS⟩ hF
  replace h:=G7 h he_
  replace hext:=Frz.ext_trans hext aS
  replace hA3:=hA3.mono aS.1
  replace a2:=a2.mono aS.1
  refine rn 2 4 [(2,pb b4),(3,pb a4),(11,iv aK.1),(13,.pointer (some ⟨a4,2,none⟩))] hF fun a hF=>?_
  refine SK.wi (qs 3 2 2 (iv aK.1) hF hS rfl fun w a hF hS=>?_)
  refine wfn rfl ?_
  refine esr ?_
  refine qo 1 1 [(14,.agg #[iv y6.1,iv 0,iv aK.1,iv 0,iv 0,iv 0,iv 0,iv 0,iv 0,iv 0,iv 0,iv 0,iv 0,iv 0])] hF (oN 149 2 0 14 hS.i rfl<|A9) fun a hF=>?_
  refine SK.wi (qS 149 3 0 (.agg #[iv y6.1,iv 0,iv aK.1,iv 0,iv 0,iv 0,iv 0,iv 0,iv 0,iv 0,iv 0,iv 0,iv 0,iv 0]) #[iv y6.1,iv 0,iv aK.1,iv 0,iv 0,iv 0,iv 0,iv 0,iv 0,iv 0,iv 0,iv 0,iv 0,iv 0] hF hS rfl fun w a hF hS=>?_)
  refine wfn rfl ?_
  refine wpIn_ret (A5<|Ab [.cell 2 149] [.agg #[iv y6.1,iv 0,iv aK.1,iv 0,iv 0,iv 0,iv 0,iv 0,iv 0,iv 0,iv 0,iv 0,iv 0,iv 0]] hF rfl ⟨⟨_,rfl,De (cs:=[iv y6.1,iv 0,iv aK.1,iv 0,iv 0,iv 0,iv 0,iv 0,iv 0,iv 0,iv 0,iv 0,iv 0,iv 0]) kr ((hS.blk (i:=3) rfl).cells rfl)⟩,trivial⟩ ?_)
  obtain rfl:=Ao h
  replace hS:=hS.d3.d2
  exact .inl ⟨_,_,rfl,rfl,ν23,bG,bS,hext,hlow,rfl,c4,hS⟩
 ·replace h:=Af h hc
  refine wpIn_skip (A0 ?_)
  refine esr ?_
  refine qn 1 1 [(15,pb cb0)] hF fun a hF=>?_
  obtain ⟨d7,cD,h⟩:=A1 h
  replace hS:=hS.s2.s2
  refine Dp (fun b6=>[(0,pb cb0),(2,pb b4),(3,pb a4),(16,b6)]) hF kr ⟨kr⟩ (Cl F _ _ cD ν8 w0 w _ hlow a2 hS) (fun _=>⟨kr⟩) ?_ ?_
  ·rintro cX w he_ ⟨ν43,bI,bU,aV,hlow,c6,hS⟩
   replace h:=G6 h he_
   replace hext:=Frz.ext_trans hext aV
   replace hA3:=hA3.mono aV.1
   replace a2:=a2.mono aV.1
   refine A6<|Az hF ?_
   obtain rfl:=Ao h
   replace hS:=hS.d3.d2
   exact .inr ⟨_,rfl,rfl,ν43,bI,bU,hext,hlow,c6,hS⟩
  rintro a0 b6 w a he_ ⟨ν37,cK,cQ,aU,hlow,rfl,a6,hS⟩ hF
  replace h:=G7 h he_
  replace hext:=Frz.ext_trans hext aU
  replace hA3:=hA3.mono aU.1
  replace a2:=a2.mono aU.1
  refine rn 1 3 [(0,pb cb0),(2,pb b4),(3,pb a4),(16,.agg #[iv a0.1.Lo,iv a0.1.Hi]),(17,pb cb0)] hF fun a hF=>?_
  obtain ⟨d8,cE,h⟩:=A1 h
  refine Dp (fun b7=>[(0,pb cb0),(2,pb b4),(3,pb a4),(16,.agg #[iv a0.1.Lo,iv a0.1.Hi]),(18,b7)]) hF kr ⟨kr⟩ (Cl F _ _ cE ν37 w0 w _ hlow a6 hS) (fun _=>⟨kr⟩) ?_ ?_
  ·rintro cY w he_ ⟨ν57,bJ,bV,aR,hlow,c7,hS⟩
   replace h:=G6 h he_
   replace hext:=Frz.ext_trans hext aR
   replace hA3:=hA3.mono aR.1
   replace a2:=a2.mono aR.1
   replace a6:=a6.mono aR.1
   refine A6<|Az hF ?_
   obtain rfl:=Ao h
   replace hS:=hS.d3.d2
   exact .inr ⟨_,rfl,rfl,ν57,bJ,bV,hext,hlow,c7,hS⟩
  rintro a1 b7 w a he_ ⟨ν51,cL,cR,aQ,hlow,rfl,a8,hS⟩ hF
  replace h:=G7 h he_
  replace hext:=Frz.ext_trans hext aQ
  replace hA3:=hA3.mono aQ.1
  replace a2:=a2.mono aQ.1
  replace a6:=a6.mono aQ.1
  refine rn 1 5 [(0,pb cb0),(2,pb b4),(3,pb a4),(16,.agg #[iv a0.1.Lo,iv a0.1.Hi]),(18,.agg #[iv a1.1.Lo,iv a1.1.Hi]),(19,pb cb0)] hF fun a hF=>?_
  obtain ⟨d9,cF,h⟩:=A1 h
  refine Dp (fun b8=>[(0,pb cb0),(2,pb b4),(3,pb a4),(16,.agg #[iv a0.1.Lo,iv a0.1.Hi]),(18,.agg #[iv a1.1.Lo,iv a1.1.Hi]),(20,b8)]) hF kr ⟨kr⟩ (Cl F _ _ cF ν51 w0 w _ hlow a8 hS) (fun _=>⟨kr⟩) ?_ ?_
  ·rintro cZ w he_ ⟨ν71,bK,bW,aP,hlow,c8,hS⟩
   replace h:=G6 h he_
   replace hext:=Frz.ext_trans hext aP
   replace hA3:=hA3.mono aP.1
   replace a2:=a2.mono aP.1
   replace a6:=a6.mono aP.1
   replace a8:=a8.mono aP.1
   refine A6<|Az hF ?_
   obtain rfl:=Ao h
   replace hS:=hS.d3.d2
   exact .inr ⟨_,rfl,rfl,ν71,bK,bW,hext,hlow,c8,hS⟩
  rintro a3 b8 w a he_ ⟨ν65,cM,cS,aO,hlow,rfl,a9,hS⟩ hF
  replace h:=G7 h he_
  replace hext:=Frz.ext_trans hext aO
  replace hA3:=hA3.mono aO.1
  replace a2:=a2.mono aO.1
  replace a6:=a6.mono aO.1
  replace a8:=a8.mono aO.1
  refine rn 1 7 [(0,pb cb0),(2,pb b4),(3,pb a4),(16,.agg #[iv a0.1.Lo,iv a0.1.Hi]),(18,.agg #[iv a1.1.Lo,iv a1.1.Hi]),(20,.agg #[iv a3.1.Lo,iv a3.1.Hi]),(21,.pointer (some ⟨a4,1,none⟩))] hF fun a hF=>?_
  refine SK.wi (qS 146 2 1 (.agg #[iv a0.1.Lo,iv a0.1.Hi]) #[iv y6.1,iv a0.1.Lo,iv a0.1.Hi,iv 0,iv 0,iv 0,iv 0,iv 0,iv 0,iv 0,iv 0,iv 0,iv 0,iv 0] hF hS rfl fun w a hF hS=>?_)
  refine qn 1 9 [(22,.pointer (some ⟨a4,8,none⟩))] hF fun a hF=>?_
  refine SK.wi (qS 146 2 8 (.agg #[iv a1.1.Lo,iv a1.1.Hi]) #[iv y6.1,iv a0.1.Lo,iv a0.1.Hi,iv 0,iv 0,iv 0,iv 0,iv 0,iv a1.1.Lo,iv a1.1.Hi,iv 0,iv 0,iv 0,iv 0] hF hS rfl fun w a hF hS=>?_)
  refine qn 1 11 [(23,.pointer (some ⟨a4,10,none⟩))] hF fun a hF=>?_
  refine SK.wi (qS 146 2 10 (.agg #[iv a3.1.Lo,iv a3.1.Hi]) #[iv y6.1,iv a0.1.Lo,iv a0.1.Hi,iv 0,iv 0,iv 0,iv 0,iv 0,iv a1.1.Lo,iv a1.1.Hi,iv a3.1.Lo,iv a3.1.Hi,iv 0,iv 0] hF hS rfl fun w a hF hS=>?_)
  refine wfn rfl ?_
  refine esr ?_
  refine qn 1 1 [(24,pb cb0)] hF fun a hF=>?_
  obtain ⟨dA,cG,h⟩:=A1 h
  refine Dp (fun b9=>[(0,pb cb0),(2,pb b4),(3,pb a4),(25,b9)]) hF kr ⟨kr⟩ (An F _ _ cG ν65 w0 w _ hlow a9 hS) (fun _=>⟨kr⟩) ?_ ?_
  ·rintro d0 w he_ ⟨ν85,bM,bY,aM,hlow,c9,hS⟩
   replace h:=G6 h he_
   replace hext:=Frz.ext_trans hext aM
   replace hA3:=hA3.mono aM.1
   replace a2:=a2.mono aM.1
   replace a6:=a6.mono aM.1
   replace a8:=a8.mono aM.1
   replace a9:=a9.mono aM.1
   refine A6<|Az hF ?_
   obtain rfl:=Ao h
   replace hS:=hS.d3.d2
   exact .inr ⟨_,rfl,rfl,ν85,bM,bY,hext,hlow,c9,hS⟩
  rintro aB b9 w a he_ ⟨ν79,bL,bX,aL,hlow,rfl,aC,hS⟩ hF
  replace h:=G7 h he_
  replace hext:=Frz.ext_trans hext aL
  replace hA3:=hA3.mono aL.1
  replace a2:=a2.mono aL.1
  replace a6:=a6.mono aL.1
  replace a8:=a8.mono aL.1
  replace a9:=a9.mono aL.1
  refine rn 1 3 [(0,pb cb0),(2,pb b4),(3,pb a4),(25,iv aB.1),(26,.pointer (some ⟨a4,7,none⟩))] hF fun a hF=>?_
  refine SK.wi (qs 3 2 7 (iv aB.1) hF hS rfl fun w a hF hS=>?_)
  refine wfn rfl ?_
  refine Ar ?_
  refine qoB [(29,.bool (y6.1==3))] hF (oL 3 2 0 hS.i rfl rfl<|A9) fun a hF=>?_
  refine Ai hF rfl (fun hc=>?_) (fun hc=>?_)
  ·replace h:=Ag h hc
   refine WI.region ?_
   refine qn 1 1 [(30,pb cb0)] hF fun a hF=>?_
   obtain ⟨dB,cH,h⟩:=A1 h
   refine Dp (fun bA=>[(0,pb cb0),(2,pb b4),(3,pb a4),(31,bA)]) hF kr ⟨kr⟩ (Cl F _ _ cH ν79 w0 w _ hlow aC hS) (fun _=>⟨kr⟩) ?_ ?_
   ·rintro d1 w he_ ⟨ν99,bB,bN,aI,hlow,bZ,hS⟩
    replace h:=G6 h he_
    replace hext:=Frz.ext_trans hext aI
    replace hA3:=hA3.mono aI.1
    replace a2:=a2.mono aI.1
    replace a6:=a6.mono aI.1
    replace a8:=a8.mono aI.1
    replace a9:=a9.mono aI.1
    replace aC:=aC.mono aI.1
    refine A6<|Az hF ?_
    obtain rfl:=Ao h
    replace hS:=hS.d3.d2
    exact .inr ⟨_,rfl,rfl,ν99,bB,bN,hext,hlow,bZ,hS⟩
   rintro a5 bA w a he_ ⟨ν93,cN,cT,aJ,hlow,rfl,aD,hS⟩ hF
   replace h:=G7 h he_
   replace hext:=Frz.ext_trans hext aJ
   replace hA3:=hA3.mono aJ.1
   replace a2:=a2.mono aJ.1
   replace a6:=a6.mono aJ.1
   replace a8:=a8.mono aJ.1
   replace a9:=a9.mono aJ.1
   replace aC:=aC.mono aJ.1
   refine rn 1 3 [(0,pb cb0),(2,pb b4),(3,pb a4),(31,.agg #[iv a5.1.Lo,iv a5.1.Hi]),(32,pb cb0)] hF fun a hF=>?_
   obtain ⟨d4,cA,h⟩:=A1 h
   refine Dp (fun b2=>[(0,pb cb0),(2,pb b4),(3,pb a4),(31,.agg #[iv a5.1.Lo,iv a5.1.Hi]),(33,b2)]) hF kr ⟨kr⟩ (Cl F _ _ cA ν93 w0 w _ hlow aD hS) (fun _=>⟨kr⟩) ?_ ?_
   ·rintro cU w he_ ⟨ν113,bC,bO,aH,hlow,c0,hS⟩
    replace h:=G6 h he_
    replace hext:=Frz.ext_trans hext aH
    replace hA3:=hA3.mono aH.1
    replace a2:=a2.mono aH.1
    replace a6:=a6.mono aH.1
    replace a8:=a8.mono aH.1
    replace a9:=a9.mono aH.1
    replace aC:=aC.mono aH.1
    replace aD:=aD.mono aH.1
    refine A6<|Az hF ?_
    obtain rfl:=Ao h
    replace hS:=hS.d3.d2
    exact .inr ⟨_,rfl,rfl,ν113,bC,bO,hext,hlow,c0,hS⟩
   rintro a7 b2 w a he_ ⟨ν107,cJ,cO,aG,hlow,rfl,aN,hS⟩ hF
   replace h:=G7 h he_
   replace hext:=Frz.ext_trans hext aG
   replace hA3:=hA3.mono aG.1
   replace a2:=a2.mono aG.1
   replace a6:=a6.mono aG.1
   replace a8:=a8.mono aG.1
   replace a9:=a9.mono aG.1
   replace aC:=aC.mono aG.1
   replace aD:=aD.mono aG.1
   refine rn 1 5 [(2,pb b4),(3,pb a4),(31,.agg #[iv a5.1.Lo,iv a5.1.Hi]),(33,.agg #[iv a7.1.Lo,iv a7.1.Hi]),(34,pb cb0)] hF fun a hF=>?_
   obtain ⟨d5,cB,h⟩:=A1 h
   refine Dp (fun b3=>[(2,pb b4),(3,pb a4),(31,.agg #[iv a5.1.Lo,iv a5.1.Hi]),(33,.agg #[iv a7.1.Lo,iv a7.1.Hi]),(35,b3)]) hF kr ⟨kr⟩ (Cl F _ _ cB ν107 w0 w _ hlow aN hS) (fun _=>⟨kr⟩) ?_ ?_
   ·rintro cV w he_ ⟨ν127,bE,bQ,aF,hlow,c2,hS⟩
    replace h:=G6 h he_
    replace hext:=Frz.ext_trans hext aF
    replace hA3:=hA3.mono aF.1
    replace a2:=a2.mono aF.1
    replace a6:=a6.mono aF.1
    replace a8:=a8.mono aF.1
    replace a9:=a9.mono aF.1
    replace aC:=aC.mono aF.1
    replace aD:=aD.mono aF.1
    replace aN:=aN.mono aF.1
    refine A6<|Az hF ?_
    obtain rfl:=Ao h
    replace hS:=hS.d3.d2
    exact .inr ⟨_,rfl,rfl,ν127,bE,bQ,hext,hlow,c2,hS⟩
   rintro aA b3 w a he_ ⟨ν121,bD,bP,aE,hlow,rfl,c1,hS⟩ hF
   replace h:=G7 h he_
   replace hext:=Frz.ext_trans hext aE
   replace hA3:=hA3.mono aE.1
   replace a2:=a2.mono aE.1
   replace a6:=a6.mono aE.1
   replace a8:=a8.mono aE.1
   replace a9:=a9.mono aE.1
   replace aC:=aC.mono aE.1
   replace aD:=aD.mono aE.1
   replace aN:=aN.mono aE.1
   refine ro 2 8 [(2,pb b4),(3,pb a4),(31,.agg #[iv a5.1.Lo,iv a5.1.Hi]),(33,.agg #[iv a7.1.Lo,iv a7.1.Hi]),(35,.agg #[iv aA.1.Lo,iv aA.1.Hi]),(37,.pointer (some ⟨a4,3,none⟩))] hF (oX (.run [] (Instr.indexAt 147 (.pointer (some ⟨a4,3,none⟩)) (iv 0)) (.pointer (some ⟨a4,3,none⟩))) (Bs kr)<|A9) fun a hF=>?_
   refine SK.wi (qS 146 2 3 (.agg #[iv a5.1.Lo,iv a5.1.Hi]) #[iv y6.1,iv a0.1.Lo,iv a0.1.Hi,iv a5.1.Lo,iv a5.1.Hi,iv 0,iv 0,iv aB.1,iv a1.1.Lo,iv a1.1.Hi,iv a3.1.Lo,iv a3.1.Hi,iv 0,iv 0] hF hS rfl fun w a hF hS=>?_)
   refine qo 2 11 [(39,.pointer (some ⟨a4,5,none⟩))] hF (oX (.run [] (Instr.indexAt 147 (.pointer (some ⟨a4,3,none⟩)) (iv 1)) (.pointer (some ⟨a4,5,none⟩))) (Bs kr)<|A9) fun a hF=>?_
   refine SK.wi (qS 146 2 5 (.agg #[iv a7.1.Lo,iv a7.1.Hi]) #[iv y6.1,iv a0.1.Lo,iv a0.1.Hi,iv a5.1.Lo,iv a5.1.Hi,iv a7.1.Lo,iv a7.1.Hi,iv aB.1,iv a1.1.Lo,iv a1.1.Hi,iv a3.1.Lo,iv a3.1.Hi,iv 0,iv 0] hF hS rfl fun w a hF hS=>?_)
   refine qn 1 13 [(40,.pointer (some ⟨a4,12,none⟩))] hF fun a hF=>?_
   refine SK.wi (qS 146 2 12 (.agg #[iv aA.1.Lo,iv aA.1.Hi]) #[iv y6.1,iv a0.1.Lo,iv a0.1.Hi,iv a5.1.Lo,iv a5.1.Hi,iv a7.1.Lo,iv a7.1.Hi,iv aB.1,iv a1.1.Lo,iv a1.1.Hi,iv a3.1.Lo,iv a3.1.Hi,iv aA.1.Lo,iv aA.1.Hi] hF hS rfl fun w a hF hS=>?_)
   refine wfn rfl ?_
   refine esr ?_
   refine qo 1 1 [(41,.agg #[iv y6.1,iv a0.1.Lo,iv a0.1.Hi,iv a5.1.Lo,iv a5.1.Hi,iv a7.1.Lo,iv a7.1.Hi,iv aB.1,iv a1.1.Lo,iv a1.1.Hi,iv a3.1.Lo,iv a3.1.Hi,iv aA.1.Lo,iv aA.1.Hi])] hF (oN 149 2 0 14 hS.i rfl<|A9) fun a hF=>?_
   refine SK.wi (qS 149 3 0 (.agg #[iv y6.1,iv a0.1.Lo,iv a0.1.Hi,iv a5.1.Lo,iv a5.1.Hi,iv a7.1.Lo,iv a7.1.Hi,iv aB.1,iv a1.1.Lo,iv a1.1.Hi,iv a3.1.Lo,iv a3.1.Hi,iv aA.1.Lo,iv aA.1.Hi]) #[iv y6.1,iv a0.1.Lo,iv a0.1.Hi,iv a5.1.Lo,iv a5.1.Hi,iv a7.1.Lo,iv a7.1.Hi,iv aB.1,iv a1.1.Lo,iv a1.1.Hi,iv a3.1.Lo,iv a3.1.Hi,iv aA.1.Lo,iv aA.1.Hi] hF hS rfl fun w a hF hS=>?_)
   refine wfn rfl ?_
   refine wpIn_ret (Ab [.cell 2 149] [.agg #[iv y6.1,iv a0.1.Lo,iv a0.1.Hi,iv a5.1.Lo,iv a5.1.Hi,iv a7.1.Lo,iv a7.1.Hi,iv aB.1,iv a1.1.Lo,iv a1.1.Hi,iv a3.1.Lo,iv a3.1.Hi,iv aA.1.Lo,iv aA.1.Hi]] hF rfl ⟨⟨_,rfl,De (cs:=[iv y6.1,iv a0.1.Lo,iv a0.1.Hi,iv a5.1.Lo,iv a5.1.Hi,iv a7.1.Lo,iv a7.1.Hi,iv aB.1,iv a1.1.Lo,iv a1.1.Hi,iv a3.1.Lo,iv a3.1.Hi,iv aA.1.Lo,iv aA.1.Hi]) kr ((hS.blk (i:=3) rfl).cells rfl)⟩,trivial⟩ ?_)
   obtain rfl:=Ao h
   replace hS:=hS.d3.d2
   exact .inl ⟨_,_,rfl,rfl,ν121,bD,bP,hext,hlow,rfl,c1,hS⟩
  ·replace h:=Af h hc
   refine wpIn_skip (A0 ?_)
   refine esr ?_
   refine qo 1 1 [(41,.agg #[iv y6.1,iv a0.1.Lo,iv a0.1.Hi,iv 0,iv 0,iv 0,iv 0,iv aB.1,iv a1.1.Lo,iv a1.1.Hi,iv a3.1.Lo,iv a3.1.Hi,iv 0,iv 0])] hF (oN 149 2 0 14 hS.i rfl<|A9) fun a hF=>?_
   refine SK.wi (qS 149 3 0 (.agg #[iv y6.1,iv a0.1.Lo,iv a0.1.Hi,iv 0,iv 0,iv 0,iv 0,iv aB.1,iv a1.1.Lo,iv a1.1.Hi,iv a3.1.Lo,iv a3.1.Hi,iv 0,iv 0]) #[iv y6.1,iv a0.1.Lo,iv a0.1.Hi,iv 0,iv 0,iv 0,iv 0,iv aB.1,iv a1.1.Lo,iv a1.1.Hi,iv a3.1.Lo,iv a3.1.Hi,iv 0,iv 0] hF hS rfl fun w a hF hS=>?_)
   refine wfn rfl ?_
   refine wpIn_ret (Ab [.cell 2 149] [.agg #[iv y6.1,iv a0.1.Lo,iv a0.1.Hi,iv 0,iv 0,iv 0,iv 0,iv aB.1,iv a1.1.Lo,iv a1.1.Hi,iv a3.1.Lo,iv a3.1.Hi,iv 0,iv 0]] hF rfl ⟨⟨_,rfl,De (cs:=[iv y6.1,iv a0.1.Lo,iv a0.1.Hi,iv 0,iv 0,iv 0,iv 0,iv aB.1,iv a1.1.Lo,iv a1.1.Hi,iv a3.1.Lo,iv a3.1.Hi,iv 0,iv 0]) kr ((hS.blk (i:=3) rfl).cells rfl)⟩,trivial⟩ ?_)
   obtain rfl:=Ao h
   replace hS:=hS.d3.d2
   exact .inl ⟨_,_,rfl,rfl,ν79,bL,bX,hext,hlow,rfl,aC,hS⟩
theorem Pg (F:Nat) (p0:ref12_reader) (res:(api_Echo×ref12_reader)) (h:H5 F p0=some res) (μ:Frz) (w0 w1:World) (T_:List Res) (hlow:Ay w0 μ) {cb0:Nat} {ad1:Option Addr} {cap2:Nat} (hA3:ArrM μ 1 (fK .u8) ad1 cap2 p0.b) (hS:St w0 (fz w0 μ::blk cb0 135 #[sv ad1 p0.b cap2,.bool p0.bad]::T_) w1):Bu Tryz.prog 124 #[pb cb0] w1 (fun e w=>∃(ν_:Frz) (aO:Option Addr) (aP:Nat),μ.ext w0.heap.size ν_∧Ay w0 ν_∧e=(res.1.ag)∧(ArrM ν_ 1 (fK .u8) aO aP res.2.b)∧St w0 (fz w0 ν_::blk cb0 135 #[sv aO res.2.b aP,.bool res.2.bad]::T_) w):=by
 rw [H5] at h
 have hext:=Frz.ext_refl w0.heap.size μ
 refine Ah Tryz.func124 rfl 42 [(0,pb cb0)] rfl rfl kr fun a w hw hF=>?_
 replace hS:=hS.cast hw
 clear hw
 refine esr ?_
 refine SK.wi (qA 149 #[iv 0,iv 0,iv 0,iv 0,iv 0,iv 0,iv 0,iv 0,iv 0,iv 0,iv 0,iv 0,iv 0,iv 0] (fun b4=>[(2,pb b4)]) hF hS fun b4 w a hF hS=>?_)
 refine wfn rfl ?_
 refine esr ?_
 refine qn 1 1 [(4,pb cb0)] hF fun a hF=>?_
 obtain ⟨y5,hy5,h⟩:=A1 h
 replace hS:=hS.s2.s2
 refine SK.wi (qR (fun v8=>[(5,v8)]) hF (Ap F _ _ hy5 μ w0 w _ hlow hA3 hS) ?_)
 rintro v8 w a ⟨ν6,ad9,bK,hx7,hlow,rfl,a4,hS⟩ hF
 replace hext:=Frz.ext_trans hext hx7
 replace hA3:=hA3.mono hx7.1
 refine qn 1 3 [(6,.agg #[iv y5.1,iv 0,iv 0,iv 0,iv 0,iv 0,iv 0,iv 0,iv 0,iv 0,iv 0,iv 0,iv 0,iv 0])] hF fun a hF=>?_
 refine SK.wi (qA 149 #[iv 0,iv 0,iv 0,iv 0,iv 0,iv 0,iv 0,iv 0,iv 0,iv 0,iv 0,iv 0,iv 0,iv 0] (fun a8=>[(3,pb a8)]) hF hS fun a8 w a hF hS=>?_)
 refine SK.wi (qS 149 0 0 (.agg #[iv y5.1,iv 0,iv 0,iv 0,iv 0,iv 0,iv 0,iv 0,iv 0,iv 0,iv 0,iv 0,iv 0,iv 0]) #[iv y5.1,iv 0,iv 0,iv 0,iv 0,iv 0,iv 0,iv 0,iv 0,iv 0,iv 0,iv 0,iv 0,iv 0] hF hS rfl fun w a hF hS=>?_)
 refine wfn rfl ?_
 refine Ar ?_
 refine qoB [(9,.bool (y5.1==1))] hF (oL 3 0 0 hS.i rfl rfl<|A9) fun a hF=>?_
 refine Ai hF rfl (fun hc=>?_) (fun hc=>?_)
 ·replace h:=Ag h hc
  refine esr ?_
  refine qn 1 1 [(10,pb cb0)] hF fun a hF=>?_
  obtain ⟨aG,b7,h⟩:=A1 h
  replace hS:=hS.s2.s2
  refine SK.wi (qR (fun aQ=>[(11,aQ)]) hF (Ap F _ _ b7 ν6 w0 w _ hlow a4 hS) ?_)
  rintro aQ w a ⟨ν14,aY,b1,aM,hlow,rfl,b5,hS⟩ hF
  replace hext:=Frz.ext_trans hext aM
  replace hA3:=hA3.mono aM.1
  replace a4:=a4.mono aM.1
  refine qn 2 4 [(11,iv aG.1),(13,.pointer (some ⟨a8,2,none⟩))] hF fun a hF=>?_
  refine SK.wi (qs 3 2 2 (iv aG.1) hF hS rfl fun w a hF hS=>?_)
  refine wfn rfl ?_
  refine esr ?_
  refine qo 1 1 [(14,.agg #[iv y5.1,iv 0,iv aG.1,iv 0,iv 0,iv 0,iv 0,iv 0,iv 0,iv 0,iv 0,iv 0,iv 0,iv 0])] hF (oN 149 2 0 14 hS.i rfl<|A9) fun a hF=>?_
  refine SK.wi (qS 149 3 0 (.agg #[iv y5.1,iv 0,iv aG.1,iv 0,iv 0,iv 0,iv 0,iv 0,iv 0,iv 0,iv 0,iv 0,iv 0,iv 0]) #[iv y5.1,iv 0,iv aG.1,iv 0,iv 0,iv 0,iv 0,iv 0,iv 0,iv 0,iv 0,iv 0,iv 0,iv 0] hF hS rfl fun w a hF hS=>?_)
  refine wfn rfl ?_
  refine wpIn_ret (A5<|Ab [.cell 2 149] [.agg #[iv y5.1,iv 0,iv aG.1,iv 0,iv 0,iv 0,iv 0,iv 0,iv 0,iv 0,iv 0,iv 0,iv 0,iv 0]] hF rfl ⟨⟨_,rfl,De (cs:=[iv y5.1,iv 0,iv aG.1,iv 0,iv 0,iv 0,iv 0,iv 0,iv 0,iv 0,iv 0,iv 0,iv 0,iv 0]) kr ((hS.blk (i:=3) rfl).cells rfl)⟩,trivial⟩ ?_)
  obtain rfl:=Ao h
  replace hS:=hS.d3.d2
  exact ⟨_,rfl,ν14,aY,b1,hext,hlow,rfl,b5,hS⟩
 ·replace h:=Af h hc
  refine wpIn_skip (A0 ?_)
  refine esr ?_
  refine qn 1 1 [(15,pb cb0)] hF fun a hF=>?_
  obtain ⟨a0,b8,h⟩:=A1 h
  replace hS:=hS.s2.s2
  refine SK.wi (qR (fun aR=>[(16,aR)]) hF (Cv F _ _ b8 ν6 w0 w _ hlow a4 hS) ?_)
  rintro aR w a ⟨ν21,bF,bL,aN,hlow,rfl,a9,hS⟩ hF
  replace hext:=Frz.ext_trans hext aN
  replace hA3:=hA3.mono aN.1
  replace a4:=a4.mono aN.1
  refine qn 1 3 [(16,.agg #[iv a0.1.Lo,iv a0.1.Hi]),(17,.pointer (some ⟨a8,1,none⟩))] hF fun a hF=>?_
  refine SK.wi (qS 146 2 1 (.agg #[iv a0.1.Lo,iv a0.1.Hi]) #[iv y5.1,iv a0.1.Lo,iv a0.1.Hi,iv 0,iv 0,iv 0,iv 0,iv 0,iv 0,iv 0,iv 0,iv 0,iv 0,iv 0] hF hS rfl fun w a hF hS=>?_)
  refine wfn rfl ?_
  refine esr ?_
  refine qn 1 1 [(18,pb cb0)] hF fun a hF=>?_
  obtain ⟨a1,b9,h⟩:=A1 h
  refine SK.wi (qR (fun aS=>[(19,aS)]) hF (Cv F _ _ b9 ν21 w0 w _ hlow a9 hS) ?_)
  rintro aS w a ⟨ν28,bG,bM,aK,hlow,rfl,aA,hS⟩ hF
  replace hext:=Frz.ext_trans hext aK
  replace hA3:=hA3.mono aK.1
  replace a4:=a4.mono aK.1
  replace a9:=a9.mono aK.1
  refine qn 1 3 [(19,.agg #[iv a1.1.Lo,iv a1.1.Hi]),(20,.pointer (some ⟨a8,8,none⟩))] hF fun a hF=>?_
  refine SK.wi (qS 146 2 8 (.agg #[iv a1.1.Lo,iv a1.1.Hi]) #[iv y5.1,iv a0.1.Lo,iv a0.1.Hi,iv 0,iv 0,iv 0,iv 0,iv 0,iv a1.1.Lo,iv a1.1.Hi,iv 0,iv 0,iv 0,iv 0] hF hS rfl fun w a hF hS=>?_)
  refine wfn rfl ?_
  refine esr ?_
  refine qn 1 1 [(21,pb cb0)] hF fun a hF=>?_
  obtain ⟨a2,bA,h⟩:=A1 h
  refine SK.wi (qR (fun aT=>[(22,aT)]) hF (Cv F _ _ bA ν28 w0 w _ hlow aA hS) ?_)
  rintro aT w a ⟨ν35,bH,bN,aJ,hlow,rfl,aB,hS⟩ hF
  replace hext:=Frz.ext_trans hext aJ
  replace hA3:=hA3.mono aJ.1
  replace a4:=a4.mono aJ.1
  replace a9:=a9.mono aJ.1
  replace aA:=aA.mono aJ.1
  refine qn 1 3 [(22,.agg #[iv a2.1.Lo,iv a2.1.Hi]),(23,.pointer (some ⟨a8,10,none⟩))] hF fun a hF=>?_
  refine SK.wi (qS 146 2 10 (.agg #[iv a2.1.Lo,iv a2.1.Hi]) #[iv y5.1,iv a0.1.Lo,iv a0.1.Hi,iv 0,iv 0,iv 0,iv 0,iv 0,iv a1.1.Lo,iv a1.1.Hi,iv a2.1.Lo,iv a2.1.Hi,iv 0,iv 0] hF hS rfl fun w a hF hS=>?_)
  refine wfn rfl ?_
  refine esr ?_
  refine qn 1 1 [(24,pb cb0)] hF fun a hF=>?_
  obtain ⟨a7,bB,h⟩:=A1 h
  refine SK.wi (qR (fun aU=>[(25,aU)]) hF (Ap F _ _ bB ν35 w0 w _ hlow aB hS) ?_)
  rintro aU w a ⟨ν42,aZ,b2,aH,hlow,rfl,aD,hS⟩ hF
  replace hext:=Frz.ext_trans hext aH
  replace hA3:=hA3.mono aH.1
  replace a4:=a4.mono aH.1
  replace a9:=a9.mono aH.1
  replace aA:=aA.mono aH.1
  replace aB:=aB.mono aH.1
  refine qn 1 3 [(25,iv a7.1),(26,.pointer (some ⟨a8,7,none⟩))] hF fun a hF=>?_
  refine SK.wi (qs 3 2 7 (iv a7.1) hF hS rfl fun w a hF hS=>?_)
  refine wfn rfl ?_
  refine Ar ?_
  refine qoB [(29,.bool (y5.1==3))] hF (oL 3 2 0 hS.i rfl rfl<|A9) fun a hF=>?_
  refine Ai hF rfl (fun hc=>?_) (fun hc=>?_)
  ·replace h:=Ag h hc
   refine esr ?_
   refine qn 1 1 [(30,pb cb0)] hF fun a hF=>?_
   obtain ⟨a3,bC,h⟩:=A1 h
   refine SK.wi (qR (fun aV=>[(31,aV)]) hF (Cv F _ _ bC ν42 w0 w _ hlow aD hS) ?_)
   rintro aV w a ⟨ν49,bI,bO,aF,hlow,rfl,aI,hS⟩ hF
   replace hext:=Frz.ext_trans hext aF
   replace hA3:=hA3.mono aF.1
   replace a4:=a4.mono aF.1
   replace a9:=a9.mono aF.1
   replace aA:=aA.mono aF.1
   replace aB:=aB.mono aF.1
   replace aD:=aD.mono aF.1
   refine qo 2 4 [(31,.agg #[iv a3.1.Lo,iv a3.1.Hi]),(33,.pointer (some ⟨a8,3,none⟩))] hF (oX (.run [] (Instr.indexAt 147 (.pointer (some ⟨a8,3,none⟩)) (iv 0)) (.pointer (some ⟨a8,3,none⟩))) (Bs kr)<|A9) fun a hF=>?_
   refine SK.wi (qS 146 2 3 (.agg #[iv a3.1.Lo,iv a3.1.Hi]) #[iv y5.1,iv a0.1.Lo,iv a0.1.Hi,iv a3.1.Lo,iv a3.1.Hi,iv 0,iv 0,iv a7.1,iv a1.1.Lo,iv a1.1.Hi,iv a2.1.Lo,iv a2.1.Hi,iv 0,iv 0] hF hS rfl fun w a hF hS=>?_)
   refine wfn rfl ?_
   refine esr ?_
   refine qn 1 1 [(34,pb cb0)] hF fun a hF=>?_
   obtain ⟨a5,bD,h⟩:=A1 h
   refine SK.wi (qR (fun aW=>[(35,aW)]) hF (Cv F _ _ bD ν49 w0 w _ hlow aI hS) ?_)
   rintro aW w a ⟨ν56,bJ,bP,aE,hlow,rfl,aL,hS⟩ hF
   replace hext:=Frz.ext_trans hext aE
   replace hA3:=hA3.mono aE.1
   replace a4:=a4.mono aE.1
   replace a9:=a9.mono aE.1
   replace aA:=aA.mono aE.1
   replace aB:=aB.mono aE.1
   replace aD:=aD.mono aE.1
   replace aI:=aI.mono aE.1
   refine qo 2 4 [(35,.agg #[iv a5.1.Lo,iv a5.1.Hi]),(37,.pointer (some ⟨a8,5,none⟩))] hF (oX (.run [] (Instr.indexAt 147 (.pointer (some ⟨a8,3,none⟩)) (iv 1)) (.pointer (some ⟨a8,5,none⟩))) (Bs kr)<|A9) fun a hF=>?_
   refine SK.wi (qS 146 2 5 (.agg #[iv a5.1.Lo,iv a5.1.Hi]) #[iv y5.1,iv a0.1.Lo,iv a0.1.Hi,iv a3.1.Lo,iv a3.1.Hi,iv a5.1.Lo,iv a5.1.Hi,iv a7.1,iv a1.1.Lo,iv a1.1.Hi,iv a2.1.Lo,iv a2.1.Hi,iv 0,iv 0] hF hS rfl fun w a hF hS=>?_)
   refine wfn rfl ?_
   refine WI.region ?_
   refine qn 1 1 [(38,pb cb0)] hF fun a hF=>?_
   obtain ⟨a6,bE,h⟩:=A1 h
   refine SK.wi (qR (fun aX=>[(39,aX)]) hF (Cv F _ _ bE ν56 w0 w _ hlow aL hS) ?_)
   rintro aX w a ⟨ν63,b0,b3,aC,hlow,rfl,b6,hS⟩ hF
   replace hext:=Frz.ext_trans hext aC
   replace hA3:=hA3.mono aC.1
   replace a4:=a4.mono aC.1
   replace a9:=a9.mono aC.1
   replace aA:=aA.mono aC.1
   replace aB:=aB.mono aC.1
   replace aD:=aD.mono aC.1
   replace aI:=aI.mono aC.1
   replace aL:=aL.mono aC.1
   refine qn 1 3 [(39,.agg #[iv a6.1.Lo,iv a6.1.Hi]),(40,.pointer (some ⟨a8,12,none⟩))] hF fun a hF=>?_
   refine SK.wi (qS 146 2 12 (.agg #[iv a6.1.Lo,iv a6.1.Hi]) #[iv y5.1,iv a0.1.Lo,iv a0.1.Hi,iv a3.1.Lo,iv a3.1.Hi,iv a5.1.Lo,iv a5.1.Hi,iv a7.1,iv a1.1.Lo,iv a1.1.Hi,iv a2.1.Lo,iv a2.1.Hi,iv a6.1.Lo,iv a6.1.Hi] hF hS rfl fun w a hF hS=>?_)
   refine wfn rfl ?_
   refine esr ?_
   refine qo 1 1 [(41,.agg #[iv y5.1,iv a0.1.Lo,iv a0.1.Hi,iv a3.1.Lo,iv a3.1.Hi,iv a5.1.Lo,iv a5.1.Hi,iv a7.1,iv a1.1.Lo,iv a1.1.Hi,iv a2.1.Lo,iv a2.1.Hi,iv a6.1.Lo,iv a6.1.Hi])] hF (oN 149 2 0 14 hS.i rfl<|A9) fun a hF=>?_
   refine SK.wi (qS 149 3 0 (.agg #[iv y5.1,iv a0.1.Lo,iv a0.1.Hi,iv a3.1.Lo,iv a3.1.Hi,iv a5.1.Lo,iv a5.1.Hi,iv a7.1,iv a1.1.Lo,iv a1.1.Hi,iv a2.1.Lo,iv a2.1.Hi,iv a6.1.Lo,iv a6.1.Hi]) #[iv y5.1,iv a0.1.Lo,iv a0.1.Hi,iv a3.1.Lo,iv a3.1.Hi,iv a5.1.Lo,iv a5.1.Hi,iv a7.1,iv a1.1.Lo,iv a1.1.Hi,iv a2.1.Lo,iv a2.1.Hi,iv a6.1.Lo,iv a6.1.Hi] hF hS rfl fun w a hF hS=>?_)
   refine wfn rfl ?_
   refine wpIn_ret (Ab [.cell 2 149] [.agg #[iv y5.1,iv a0.1.Lo,iv a0.1.Hi,iv a3.1.Lo,iv a3.1.Hi,iv a5.1.Lo,iv a5.1.Hi,iv a7.1,iv a1.1.Lo,iv a1.1.Hi,iv a2.1.Lo,iv a2.1.Hi,iv a6.1.Lo,iv a6.1.Hi]] hF rfl ⟨⟨_,rfl,De (cs:=[iv y5.1,iv a0.1.Lo,iv a0.1.Hi,iv a3.1.Lo,iv a3.1.Hi,iv a5.1.Lo,iv a5.1.Hi,iv a7.1,iv a1.1.Lo,iv a1.1.Hi,iv a2.1.Lo,iv a2.1.Hi,iv a6.1.Lo,iv a6.1.Hi]) kr ((hS.blk (i:=3) rfl).cells rfl)⟩,trivial⟩ ?_)
   obtain rfl:=Ao h
   replace hS:=hS.d3.d2
   exact ⟨_,rfl,ν63,b0,b3,hext,hlow,rfl,b6,hS⟩
  ·replace h:=Af h hc
   refine wpIn_skip (A0 ?_)
   refine esr ?_
   refine qo 1 1 [(41,.agg #[iv y5.1,iv a0.1.Lo,iv a0.1.Hi,iv 0,iv 0,iv 0,iv 0,iv a7.1,iv a1.1.Lo,iv a1.1.Hi,iv a2.1.Lo,iv a2.1.Hi,iv 0,iv 0])] hF (oN 149 2 0 14 hS.i rfl<|A9) fun a hF=>?_
   refine SK.wi (qS 149 3 0 (.agg #[iv y5.1,iv a0.1.Lo,iv a0.1.Hi,iv 0,iv 0,iv 0,iv 0,iv a7.1,iv a1.1.Lo,iv a1.1.Hi,iv a2.1.Lo,iv a2.1.Hi,iv 0,iv 0]) #[iv y5.1,iv a0.1.Lo,iv a0.1.Hi,iv 0,iv 0,iv 0,iv 0,iv a7.1,iv a1.1.Lo,iv a1.1.Hi,iv a2.1.Lo,iv a2.1.Hi,iv 0,iv 0] hF hS rfl fun w a hF hS=>?_)
   refine wfn rfl ?_
   refine wpIn_ret (Ab [.cell 2 149] [.agg #[iv y5.1,iv a0.1.Lo,iv a0.1.Hi,iv 0,iv 0,iv 0,iv 0,iv a7.1,iv a1.1.Lo,iv a1.1.Hi,iv a2.1.Lo,iv a2.1.Hi,iv 0,iv 0]] hF rfl ⟨⟨_,rfl,De (cs:=[iv y5.1,iv a0.1.Lo,iv a0.1.Hi,iv 0,iv 0,iv 0,iv 0,iv a7.1,iv a1.1.Lo,iv a1.1.Hi,iv a2.1.Lo,iv a2.1.Hi,iv 0,iv 0]) kr ((hS.blk (i:=3) rfl).cells rfl)⟩,trivial⟩ ?_)
   obtain rfl:=Ao h
   replace hS:=hS.d3.d2
   exact ⟨_,rfl,ν42,aZ,b2,hext,hlow,rfl,aD,hS⟩
theorem P0 (F:Nat) (p0:ref12_reader) (p1:Int) (res:((List api_Span)×ref12_reader)) (h:E9 F p0 p1=some res) (μ:Frz) (w0 w1:World) (T_:List Res) (hlow:Ay w0 μ) {cb0:Nat} {ad1:Option Addr} {cap2:Nat} (hA3:ArrM μ 1 (fK .u8) ad1 cap2 p0.b) (hS:St w0 (fz w0 μ::blk cb0 135 #[sv ad1 p0.b cap2,.bool p0.bad]::T_) w1):Bu Tryz.prog 103 #[pb cb0,iv p1] w1 (fun e w=>∃(ν_:Frz) (bB:Option Addr) (bF:Nat) (bC:Option Addr) (bG:Nat),μ.ext w0.heap.size ν_∧Ay w0 ν_∧e=(sv bB res.1 bF)∧ArrM ν_ 2 api_Span.cells bB bF res.1∧(ArrM ν_ 1 (fK .u8) bC bG res.2.b)∧St w0 (fz w0 ν_::blk cb0 135 #[sv bC res.2.b bG,.bool res.2.bad]::T_) w):=by
 rw [E9] at h
 have hext:=Frz.ext_refl w0.heap.size μ
 refine Ah Tryz.func103 rfl 61 [(0,pb cb0),(1,iv p1)] rfl rfl kr fun a w hw hF=>?_
 replace hS:=hS.cast hw
 clear hw
 refine qnB [] hF fun a hF=>?_
 refine qnB [(5,.slice none 0 0)] hF fun a hF=>?_
 refine esr ?_
 refine qn 1 1 [(10,.agg #[iv 0,iv 0])] hF fun a hF=>?_
 refine SK.wi (qA 146 #[iv 0,iv 0] (fun b4=>[(6,pb b4)]) hF hS fun b4 w a hF hS=>?_)
 refine SK.wi (qS 146 0 0 (.agg #[iv 0,iv 0]) #[iv 0,iv 0] hF hS rfl fun w a hF hS=>?_)
 refine wfn rfl ?_
 have a9:=Frz.le_refl μ
 refine Dg (fun a w=>∃(b9:Int) (bA:Int) (b0:(List Int)) (b3:Bool) (aI:(List api_Span)) (ν249:Frz) (aU:Option Addr) (aW:Nat) (aK:Option Addr) (aM:Nat),Fr 61 [] [(5,sv aK aI aM)] a∧St w0 (arr 146 2 api_Span.cells aK aI.length aM aI::blk b4 146 #[iv b9,iv bA]::fz w0 ν249::blk cb0 135 #[sv aU b0 aW,.bool b3]::T_) w∧(ArrM ν249 1 (fK .u8) aU aW b0)∧(μ.le ν249)∧(μ.ext w0.heap.size ν249)∧(Ay w0 ν249)∧Bo b9 bA b0 b3 aI=some res) ?_ ?_
 ·skip
  refine wpIn_block ?_
  have bH:=Frz.le_refl μ
  replace hS:=hS.nilarr 146 2 api_Span.cells
  refine Cq (fun n_ a w=>∃(a1:Int) (a2:Int) (aJ:(List Int)) (aC:Bool) (a3:(List api_Span)) (ν424:Frz) (aO:Option Addr) (aQ:Nat) (a5:Option Addr) (a6:Nat),Fr 61 [] [(0,pb cb0),(1,iv p1),(5,sv a5 a3 a6),(6,pb b4)] a∧St w0 (arr 146 2 api_Span.cells a5 a3.length a6 a3::blk b4 146 #[iv a1,iv a2]::fz w0 ν424::blk cb0 135 #[sv aO aJ aQ,.bool aC]::T_) w∧(ArrM ν424 1 (fK .u8) aO aQ aJ)∧(μ.le ν424)∧(μ.ext w0.heap.size ν424)∧(Ay w0 ν424)∧Bg F p1 n_ a1 a2 aJ aC a3=some res) F ⟨0,0,p0.b,p0.bad,[],μ,ad1,cap2,none,0,hF.sub kr,hS,hA3,bH,hext,hlow,h⟩ ?_
  clear bH
  rintro nk2 a w ⟨a1,a2,aJ,aC,a3,ν424,aO,aQ,a5,a6,hF,hS,aH,aF,hext,hlow,h⟩
  rcases nk2 with _|nk2
  ·cases (show (none:Option ((List api_Span)×ref12_reader))=some res from h)
  replace hA3:=hA3.mono aF
  replace a9:=Frz.le_trans a9 aF
  obtain ⟨k2,hk2⟩:∃k,k=Bg F p1 nk2:=⟨_,rfl⟩
  replace h:D8 F p1 k2 a1 a2 aJ aC a3=some res:=by rw [hk2];exact h
  rw [D8] at h
  refine Ar ?_
  refine esr ?_
  refine qn 5 5 [(15,.bool (decide ((ln a3)<p1)))] hF fun a hF=>?_
  rcases Bool.eq_false_or_eq_true ((decide ((ln a3)<p1))) with aS|aS
  ·replace h:=Ag h aS
   rw [aS] at hF
   refine qo 6 11 [(21,.bool (!aC))] hF (oX (.run [⟨15,true,true⟩] (Instr.loadAt 4 (.pointer (some ⟨cb0,1,none⟩))) (.bool aC)) (ob1 kr (fun _ hd=>(hS.at_ hd).cell (i:=3) (j:=1) rfl rfl))<|A9) fun a hF=>?_
   refine wfn rfl ?_
   refine Ai hF rfl (fun hc=>?_) (fun hc=>?_)
   ·replace h:=Ag h hc
    refine wpIn_skip (A0 ?_)
    refine wpIn_block ?_
    refine esr ?_
    obtain ⟨bW,bR,h⟩:=A1 h
    refine qo 5 5 [(22,pb cb0),(26,iv bW)] hF (oS 3 bR<|A9) fun a hF=>?_
    obtain ⟨a4,bT,h⟩:=A1 h
    replace hS:=hS.s3.s3
    refine SK.wi (qR (fun bI=>[(27,bI)]) hF (Lh F _ _ _ bT ν424 w0 w _ hlow aH hS) ?_)
    rintro bI w a ⟨ν440,b2,b5,aT,hlow,rfl,aY,hS⟩ hF
    replace hext:=Frz.ext_trans hext aT
    replace hA3:=hA3.mono aT.1
    replace aH:=aH.mono aT.1
    replace a9:=Frz.le_trans a9 aT.1
    replace aF:=Frz.le_trans aF aT.1
    refine qn 1 7 [(7,iv a4.1)] hF fun a hF=>?_
    refine wfn rfl ?_
    refine Dg (fun a w=>∃(a7:(List api_Span)) (aA:Option Addr) (aD:Nat),Fr 61 [] [(0,pb cb0),(1,iv p1),(5,sv aA a7 aD),(6,pb b4)] a∧St w0 (arr 146 2 api_Span.cells aA a7.length aD a7::fz w0 ν440::blk cb0 135 #[sv b2 a4.2.b b5,.bool a4.2.bad]::blk b4 146 #[iv a1,iv a2]::T_) w∧E6 F p1 a1 a2 k2 a4 a7=some res) ?_ ?_
    ·skip
     refine qnB [(8,iv 0)] hF fun a hF=>?_
     refine wpIn_block ?_
     refine Cq (fun n_ a w=>∃(a8:(List api_Span)) (aG:Int) (aB:Option Addr) (aE:Nat),Fr 61 [] [(0,pb cb0),(1,iv p1),(5,sv aB a8 aE),(6,pb b4),(7,iv a4.1),(8,iv aG)] a∧St w0 (arr 146 2 api_Span.cells aB a8.length aE a8::fz w0 ν440::blk cb0 135 #[sv b2 a4.2.b b5,.bool a4.2.bad]::blk b4 146 #[iv a1,iv a2]::T_) w∧Bx F p1 a1 a2 k2 a4 n_ a8 aG=some res) F ⟨a3,0,a5,a6,hF.sub kr,hS.s2,h⟩ ?_
     rintro nk4 a w ⟨a8,aG,aB,aE,hF,hS,h⟩
     rcases nk4 with _|nk4
     ·cases (show (none:Option ((List api_Span)×ref12_reader))=some res from h)
     obtain ⟨k4,hk4⟩:∃k,k=Bx F p1 a1 a2 k2 a4 nk4:=⟨_,rfl⟩
     replace h:Fk F p1 a1 a2 k2 a4 k4 a8 aG=some res:=by rw [hk4];exact h
     rw [Fk] at h
     refine Ar ?_
     refine qnB [(30,.bool (decide (aG<a4.1)))] hF fun a hF=>?_
     refine Ai hF rfl (fun hc=>?_) (fun hc=>?_)
     ·replace h:=Ag h hc
      refine wpIn_skip (A0 ?_)
      refine Ar ?_
      refine wpIn_block ?_
      refine WI.region ?_
      refine qo 2 2 [(33,sv aB a8 aE),(34,.agg #[iv a1,iv a2])] hF (oN 146 3 0 2 hS.i rfl<|A9) fun a hF=>?_
      refine SK.wi (G3 (e:=146) (sz:=2) (f:=api_Span.cells) (t:=44) (len:=1) (fun bE=>[(0,pb cb0),(1,iv p1),(5,sv aB a8 aE),(6,pb b4),(7,iv a4.1),(8,iv aG),(33,sv aB a8 aE),(35,sb bE 1)]) #[(0,.agg #[iv a1,iv a2])] #[iv a1,iv a2] ([(api_Span.mk a1 a2)]) hF hS kr ⟨kr⟩ kr api_Span.cells_len rfl rfl kr (fun _=>⟨kr⟩) fun bE w a hF hS=>?_)
      obtain ⟨b1,bQ,h⟩:=A1 h
      refine SK.wi (Rw (t:=44) (ty:=44) (bytes:=16) (l:=a8) (l':=([(api_Span.mk a1 a2)])) (fun aP aR=>[(0,pb cb0),(1,iv p1),(5,sv aB a8 aE),(6,pb b4),(7,iv a4.1),(8,iv aG),(36,sv aP b1 aR)]) 1 hF hS rfl kr ⟨kr⟩ kr (hS.arr (i:=0) rfl) (fun _ _=>rfl) bQ (fun _ _=>⟨kr⟩) fun aP aR w a hF hS=>?_)
      refine rn 1 5 [(0,pb cb0),(1,iv p1),(5,sv aP b1 aR),(6,pb b4),(7,iv a4.1),(8,iv aG)] hF fun a hF=>?_
      refine WI.fin rfl (Aa<|A0<|?_)
      refine WI.region ?_
      obtain ⟨bK,bS,h⟩:=A1 h
      refine ro 3 3 [(0,pb cb0),(1,iv p1),(5,sv aP b1 aR),(6,pb b4),(7,iv a4.1),(8,iv bK)] hF (oA 3 bS<|A9) fun a hF=>?_
      refine wfn rfl ?_
      rw [hk4] at h
      exact ⟨nk4,Nat.lt_succ_self _,b1,bK,aP,aR,hF.sub kr,hS.d0,h⟩
     ·replace h:=Af h hc
      refine wpIn_exit (A7<|A7<|Av<|A0 ?_)
      exact ⟨a8,aB,aE,hF.sub kr,hS,h⟩
    rintro a w ⟨a7,aA,aD,hF,hS,h⟩
    rw [E6] at h
    refine qnB [(40,.bool (decide ((ln a7)<p1)))] hF fun a hF=>?_
    refine Ai hF rfl (fun hc=>?_) (fun hc=>?_)
    ·replace h:=Ag h hc
     refine esr ?_
     refine qn 1 1 [(41,pb cb0)] hF fun a hF=>?_
     obtain ⟨a0,bU,h⟩:=A1 h
     replace hS:=hS.s2.s2
     refine SK.wi (qR (fun bJ=>[(42,bJ)]) hF (Cv F _ _ bU ν440 w0 w _ hlow aY hS) ?_)
     rintro bJ w a ⟨ν474,bL,bM,aN,hlow,rfl,bO,hS⟩ hF
     replace hext:=Frz.ext_trans hext aN
     replace hA3:=hA3.mono aN.1
     replace aH:=aH.mono aN.1
     replace aY:=aY.mono aN.1
     replace a9:=Frz.le_trans a9 aN.1
     replace aF:=Frz.le_trans aF aN.1
     refine SK.wi (qA 146 #[iv 0,iv 0] (fun aL=>[(9,pb aL),(42,.agg #[iv a0.1.Lo,iv a0.1.Hi])]) hF hS fun aL w a hF hS=>?_)
     refine SK.wi (qS 146 0 0 (.agg #[iv a0.1.Lo,iv a0.1.Hi]) #[iv a0.1.Lo,iv a0.1.Hi] hF hS rfl fun w a hF hS=>?_)
     refine wfn rfl ?_
     refine esr ?_
     refine qo 12 12 [(52,.bool (bif a0.2.bad then true else (((a0.1.Lo:Int)==a1)&&(((a0.1.Hi:Int)==a2)&&true)))),(54,.pointer (some ⟨cb0,1,none⟩))] hF (oL 4 2 1 hS.i rfl rfl<|oX (.run [⟨48,false,a0.2.bad⟩] (Instr.loadAt 146 (pb aL)) (.agg #[iv a0.1.Lo,iv a0.1.Hi])) (obN (us:=[iv a0.1.Lo,iv a0.1.Hi]) kr (fun _ hd=>((hS.at_ hd).blk (i:=0) rfl).cells rfl))<|oX (.run [⟨48,false,a0.2.bad⟩] (Instr.loadAt 146 (pb b4)) (.agg #[iv a1,iv a2])) (obN (us:=[iv a1,iv a2]) kr (fun _ hd=>((hS.at_ hd).blk (i:=4) rfl).cells rfl))<|oX (.run [⟨48,false,a0.2.bad⟩] (eqS .eql 146 #[iv a0.1.Lo,iv a0.1.Hi] #[iv a1,iv a2]) (.bool (((a0.1.Lo:Int)==a1)&&(((a0.1.Hi:Int)==a2)&&true)))) (Lg kr kr)<|A9) fun a hF=>?_
     refine SK.wi (qs 4 2 1 (.bool (bif a0.2.bad then true else (((a0.1.Lo:Int)==a1)&&(((a0.1.Hi:Int)==a2)&&true)))) hF hS rfl fun w a hF hS=>?_)
     refine wfn rfl ?_
     refine esr ?_
     refine qo 2 2 [(55,sv aA a7 aD),(56,.agg #[iv a0.1.Lo,iv a0.1.Hi])] hF (oN 146 0 0 2 hS.i rfl<|A9) fun a hF=>?_
     refine SK.wi (G3 (e:=146) (sz:=2) (f:=api_Span.cells) (t:=44) (len:=1) (fun bD=>[(0,pb cb0),(1,iv p1),(5,sv aA a7 aD),(6,pb b4),(9,pb aL),(55,sv aA a7 aD),(57,sb bD 1)]) #[(0,.agg #[iv a0.1.Lo,iv a0.1.Hi])] #[iv a0.1.Lo,iv a0.1.Hi] ([(api_Span.mk a0.1.Lo a0.1.Hi)]) hF hS kr ⟨kr⟩ kr api_Span.cells_len rfl rfl kr (fun _=>⟨kr⟩) fun bD w a hF hS=>?_)
     obtain ⟨b8,bP,h⟩:=A1 h
     refine SK.wi (Rw (t:=44) (ty:=44) (bytes:=16) (l:=a7) (l':=([(api_Span.mk a0.1.Lo a0.1.Hi)])) (fun aV aX=>[(0,pb cb0),(1,iv p1),(5,sv aA a7 aD),(6,pb b4),(9,pb aL),(58,sv aV b8 aX)]) 4 hF hS rfl kr ⟨kr⟩ kr (hS.arr (i:=0) rfl) (fun _ _=>rfl) bP (fun _ _=>⟨kr⟩) fun aV aX w a hF hS=>?_)
     refine rn 1 5 [(0,pb cb0),(1,iv p1),(5,sv aV b8 aX),(6,pb b4),(9,pb aL)] hF fun a hF=>?_
     refine wfn rfl ?_
     refine WI.region ?_
     refine qo 1 1 [(59,.agg #[iv a0.1.Lo,iv a0.1.Hi])] hF (oN 146 1 0 2 hS.i rfl<|A9) fun a hF=>?_
     refine SK.wi (qS 146 5 0 (.agg #[iv a0.1.Lo,iv a0.1.Hi]) #[iv a0.1.Lo,iv a0.1.Hi] hF hS rfl fun w a hF hS=>?_)
     refine WI.fin rfl (Aa<|A0<|?_)
     rw [hk2] at h
     exact ⟨nk2,Nat.lt_succ_self _,a0.1.Lo,a0.1.Hi,a0.2.b,bif a0.2.bad then true else (((a0.1.Lo:Int)==a1)&&(((a0.1.Hi:Int)==a2)&&true)),b8,ν474,bL,bM,aV,aX,hF.sub kr,hS.d1.d0.s3.s3,bO,aF,hext,hlow,h⟩
    ·replace h:=Af h hc
     refine wpIn_skip (Aa<|A0<|?_)
     rw [hk2] at h
     exact ⟨nk2,Nat.lt_succ_self _,a1,a2,a4.2.b,a4.2.bad,a7,ν440,b2,b5,aA,aD,hF.sub kr,hS.s3.s1,aY,aF,hext,hlow,h⟩
   ·replace h:=Af h hc
    refine wpIn_exit (A7<|A7<|Av<|A0 ?_)
    exact ⟨a1,a2,aJ,aC,a3,ν424,aO,aQ,a5,a6,hF.sub kr,hS,aH,a9,hext,hlow,h⟩
  ·replace h:=Af h aS
   rw [aS] at hF
   refine Be 6 [(0,pb cb0),(1,iv p1),(5,sv a5 a3 a6),(6,pb b4),(15,.bool false),(16,undef)] hF kr ⟨kr⟩ ⟨kr⟩ rfl fun a hF=>?_
   refine Be 7 [(0,pb cb0),(1,iv p1),(5,sv a5 a3 a6),(6,pb b4),(15,.bool false),(17,undef)] hF kr ⟨kr⟩ ⟨kr⟩ rfl fun a hF=>?_
   refine Be 8 [(0,pb cb0),(1,iv p1),(5,sv a5 a3 a6),(6,pb b4),(15,.bool false),(18,undef)] hF kr ⟨kr⟩ ⟨kr⟩ rfl fun a hF=>?_
   refine Be 9 [(0,pb cb0),(1,iv p1),(5,sv a5 a3 a6),(6,pb b4),(15,.bool false),(19,undef)] hF kr ⟨kr⟩ ⟨kr⟩ rfl fun a hF=>?_
   refine Be 10 [(0,pb cb0),(1,iv p1),(5,sv a5 a3 a6),(6,pb b4),(15,.bool false),(20,undef)] hF kr ⟨kr⟩ ⟨kr⟩ rfl fun a hF=>?_
   refine rn 1 11 [(0,pb cb0),(1,iv p1),(5,sv a5 a3 a6),(6,pb b4),(21,.bool false)] hF fun a hF=>?_
   refine wfn rfl ?_
   refine wpIn_cond_false (hF.get rfl) ?_
   refine wpIn_exit (A7<|A7<|Av<|A0 ?_)
   exact ⟨a1,a2,aJ,aC,a3,ν424,aO,aQ,a5,a6,hF.sub kr,hS,aH,a9,hext,hlow,h⟩
 clear a9
 rintro a w ⟨b9,bA,b0,b3,aI,ν249,aU,aW,aK,aM,hF,hS,b6,b7,hext,hlow,h⟩
 replace hA3:=hA3.mono b7
 rw [Bo] at h
 refine rnB [(4,sv aK aI aM)] hF fun a hF=>?_
 refine wpIn_ret (Ab [.tmp 4] [sv aK aI aM] hF rfl ⟨rfl,trivial⟩ ?_)
 obtain ⟨ν261,aZ,hlow,hS,bV⟩:=hS.freeze (i:=2) (j:=0) rfl rfl (by decide) hlow
 replace hA3:=hA3.mono aZ.1
 replace b6:=b6.mono aZ.1
 replace b7:=Frz.le_trans b7 aZ.1
 replace hext:=Frz.ext_trans hext aZ
 have bN:=ArrM.of_arr bV
 obtain rfl:=Ao h
 replace hS:=hS.d0
 exact ⟨_,rfl,ν261,aK,aM,aU,aW,hext,hlow,rfl,bN,b6,hS⟩
end Go.Proofs.YtifbomimeodibaaGreat
