import Derived.Test.YtifbomimeodibaaGreatV5XD
import Derived.Test.YtifbomimeodibaaGreatProg
import Derived.Test.YtifbomimeodibaaGreatV5XW2
import Derived.Test.YtifbomimeodibaaGreatV5XW5
import Derived.Test.YtifbomimeodibaaGreatV5XW6
namespace Go.Proofs.YtifbomimeodibaaGreat
open Go Go.RowKit Go.Eng
set_option maxRecDepth 10000
set_option maxHeartbeats 4000000
set_option linter.unusedVariables false
set_option linter.unusedSimpArgs false
theorem Qc (F:Nat) (p0:volume_reader) (res:Except (Value×volume_reader) (api_Echo×volume_reader)) (h:G7 F p0=some res) (μ:Frz) (w0 w1:World) (T_:List Res) (hlow:Ax w0 μ) {cb0:Nat} {ad1:Option Addr} {cap2:Nat} (hA3:ArrM μ 1 (fK .u8) ad1 cap2 p0.b) (hS:St w0 (fz w0 μ::blk cb0 125 #[sv ad1 p0.b cap2]::T_) w1):Py Tryz.prog 95 #[pb cb0] w1 res (fun r_ e w=>∃(ν_:Frz) (aW:Option Addr) (aY:Nat),μ.ext w0.heap.size ν_∧Ax w0 ν_∧e=(r_.1.ag)∧(ArrM ν_ 1 (fK .u8) aW aY r_.2.b)∧St w0 (fz w0 ν_::blk cb0 125 #[sv aW r_.2.b aY]::T_) w) (fun e_ w=>∃(ν_:Frz) (aX:Option Addr) (aZ:Nat),μ.ext w0.heap.size ν_∧Ax w0 ν_∧(ArrM ν_ 1 (fK .u8) aX aZ e_.b)∧St w0 (fz w0 ν_::blk cb0 125 #[sv aX e_.b aZ]::T_) w):=by
 rw [G7] at h
 have hext:=Frz.ext_refl w0.heap.size μ
 refine feW Tryz.func95 42 [(0,pb cb0)] hS fun a w hF hS=>?_
 refine esr<|SK.wi (qA 149 Xa (fun b4=>[(2,pb b4)]) hF hS fun b4 w a hF hS=>wfn rfl ?_)
 refine esr<|qn 1 1 [(4,pb cb0)] hF fun a hF=>?_
 obtain ⟨y5,hy5,h⟩:=A0 h
 replace hS:=hS.s2.s2
 refine Ee (fun b1=>[(0,pb cb0),(2,pb b4),(5,b1)]) hF kr ⟨kr⟩ (Ai F _ _ hy5 μ w0 w _ hlow hA3 hS) (fun _=>⟨kr⟩) ?_ ?_
 ·rintro e7 w he_ ⟨ν14,bF,bR,b0,hlow,c3,hS⟩
  replace h:=H0 h he_
  replace hext:=hext.t b0
  replace hA3:=hA3.mono b0.1
  refine A6<|Az hF ?_
  obtain rfl:=Ae h
  replace hS:=hS.d2
  exact .inr ⟨_,rfl,rfl,ν14,bF,bR,hext,hlow,c3,hS⟩
 rintro y6 b1 w a he_ ⟨ν8,cI,cP,hx9,hlow,rfl,a0,hS⟩ hF
 replace h:=H3 h he_
 replace hext:=hext.t hx9
 replace hA3:=hA3.mono hx9.1
 refine rn 1 3 [(0,pb cb0),(2,pb b4),(6,.agg #[iv y6.1,iv 0,iv 0,iv 0,iv 0,iv 0,iv 0,iv 0,iv 0,iv 0,iv 0,iv 0,iv 0,iv 0])] hF fun a hF=>?_
 refine SK.wi (qA 149 Xa (fun a1=>[(3,pb a1)]) hF hS fun a1 w a hF hS=>?_)
 refine SK.wi (qw 149 0 #[iv y6.1,iv 0,iv 0,iv 0,iv 0,iv 0,iv 0,iv 0,iv 0,iv 0,iv 0,iv 0,iv 0,iv 0] hF hS rfl fun w a hF hS=>wfn rfl ?_)
 refine Am<|qoB [(9,.bool (y6.1==1))] hF (oL 3 0 0 hS.i rfl rfl<|A1) fun a hF=>?_
 refine A8 hF h (fun hc h=>?_) fun hc h=>?_
 ·refine esr<|qn 1 1 [(10,pb cb0)] hF fun a hF=>?_
  obtain ⟨d6,cC,h⟩:=A0 h
  replace hS:=hS.s2.s2
  refine Ee (fun b5=>[(2,pb b4),(3,pb a1),(11,b5)]) hF kr ⟨kr⟩ (Ai F _ _ cC ν8 w0 w _ hlow a0 hS) (fun _=>⟨kr⟩) ?_ ?_
  ·rintro cW w he_ ⟨ν29,bH,bT,aT,hlow,c5,hS⟩
   replace h:=H0 h he_
   replace hext:=hext.t aT
   replace hA3:=hA3.mono aT.1
   replace a0:=a0.mono aT.1
   refine A6<|A6<|Az hF ?_
   obtain rfl:=Ae h
   replace hS:=hS.d3.d2
   exact .inr ⟨_,rfl,rfl,ν29,bH,bT,hext,hlow,c5,hS⟩
  rintro aP b5 w a he_ ⟨ν23,bG,bS,aS,hlow,rfl,c4,hS⟩ hF
  replace h:=H3 h he_
  replace hext:=hext.t aS
  replace hA3:=hA3.mono aS.1
  replace a0:=a0.mono aS.1
  refine rn 2 4 [(2,pb b4),(3,pb a1),(11,iv aP.1),(13,.pointer (some ⟨a1,2,none⟩))] hF fun a hF=>?_
  refine SK.wi (qs 3 2 2 (iv aP.1) hF hS rfl fun w a hF hS=>wfn rfl ?_)
  refine esr<|qo 1 1 [(14,.agg #[iv y6.1,iv 0,iv aP.1,iv 0,iv 0,iv 0,iv 0,iv 0,iv 0,iv 0,iv 0,iv 0,iv 0,iv 0])] hF (oN 149 2 0 14 hS.i rfl<|A1) fun a hF=>?_
  refine SK.wi (qw 149 3 #[iv y6.1,iv 0,iv aP.1,iv 0,iv 0,iv 0,iv 0,iv 0,iv 0,iv 0,iv 0,iv 0,iv 0,iv 0] hF hS rfl fun w a hF hS=>wfn rfl ?_)
  refine wpIn_ret (A2<|A7 [.cell 2 149] [_] hF rfl ⟨⟨_,rfl,Ea (cs:=[iv y6.1,iv 0,iv aP.1,iv 0,iv 0,iv 0,iv 0,iv 0,iv 0,iv 0,iv 0,iv 0,iv 0,iv 0]) kr ((hS.blk (i:=3) rfl).cells rfl)⟩,trivial⟩ ?_)
  obtain rfl:=Ae h
  replace hS:=hS.d3.d2
  exact .inl ⟨_,_,rfl,rfl,ν23,bG,bS,hext,hlow,rfl,c4,hS⟩
 ·refine wK<|esr<|qn 1 1 [(15,pb cb0)] hF fun a hF=>?_
  obtain ⟨d7,cD,h⟩:=A0 h
  replace hS:=hS.s2.s2
  refine Ee (fun b6=>[(0,pb cb0),(2,pb b4),(3,pb a1),(16,b6)]) hF kr ⟨kr⟩ (Cz F _ _ cD ν8 w0 w _ hlow a0 hS) (fun _=>⟨kr⟩) ?_ ?_
  ·rintro cX w he_ ⟨ν43,bI,bU,aV,hlow,c6,hS⟩
   replace h:=H0 h he_
   replace hext:=hext.t aV
   replace hA3:=hA3.mono aV.1
   replace a0:=a0.mono aV.1
   refine A6<|Az hF ?_
   obtain rfl:=Ae h
   replace hS:=hS.d3.d2
   exact .inr ⟨_,rfl,rfl,ν43,bI,bU,hext,hlow,c6,hS⟩
  rintro a3 b6 w a he_ ⟨ν37,cK,cQ,aU,hlow,rfl,a2,hS⟩ hF
  replace h:=H3 h he_
  replace hext:=hext.t aU
  replace hA3:=hA3.mono aU.1
  replace a0:=a0.mono aU.1
  refine rn 1 3 [(0,pb cb0),(2,pb b4),(3,pb a1),(16,.agg #[iv a3.1.Lo,iv a3.1.Hi]),(17,pb cb0)] hF fun a hF=>?_
  obtain ⟨d8,cE,h⟩:=A0 h
  refine Ee (fun b7=>[(0,pb cb0),(2,pb b4),(3,pb a1),(16,.agg #[iv a3.1.Lo,iv a3.1.Hi]),(18,b7)]) hF kr ⟨kr⟩ (Cz F _ _ cE ν37 w0 w _ hlow a2 hS) (fun _=>⟨kr⟩) ?_ ?_
  ·rintro cY w he_ ⟨ν57,bJ,bV,aR,hlow,c7,hS⟩
   replace h:=H0 h he_
   replace hext:=hext.t aR
   replace hA3:=hA3.mono aR.1
   replace a0:=a0.mono aR.1
   replace a2:=a2.mono aR.1
   refine A6<|Az hF ?_
   obtain rfl:=Ae h
   replace hS:=hS.d3.d2
   exact .inr ⟨_,rfl,rfl,ν57,bJ,bV,hext,hlow,c7,hS⟩
  rintro a5 b7 w a he_ ⟨ν51,cL,cR,aQ,hlow,rfl,a4,hS⟩ hF
  replace h:=H3 h he_
  replace hext:=hext.t aQ
  replace hA3:=hA3.mono aQ.1
  replace a0:=a0.mono aQ.1
  replace a2:=a2.mono aQ.1
  refine rn 1 5 [(0,pb cb0),(2,pb b4),(3,pb a1),(16,.agg #[iv a3.1.Lo,iv a3.1.Hi]),(18,.agg #[iv a5.1.Lo,iv a5.1.Hi]),(19,pb cb0)] hF fun a hF=>?_
  obtain ⟨d9,cF,h⟩:=A0 h
  refine Ee (fun b8=>[(0,pb cb0),(2,pb b4),(3,pb a1),(16,.agg #[iv a3.1.Lo,iv a3.1.Hi]),(18,.agg #[iv a5.1.Lo,iv a5.1.Hi]),(20,b8)]) hF kr ⟨kr⟩ (Cz F _ _ cF ν51 w0 w _ hlow a4 hS) (fun _=>⟨kr⟩) ?_ ?_
  ·rintro cZ w he_ ⟨ν71,bK,bW,aO,hlow,c8,hS⟩
   replace h:=H0 h he_
   replace hext:=hext.t aO
   replace hA3:=hA3.mono aO.1
   replace a0:=a0.mono aO.1
   replace a2:=a2.mono aO.1
   replace a4:=a4.mono aO.1
   refine A6<|Az hF ?_
   obtain rfl:=Ae h
   replace hS:=hS.d3.d2
   exact .inr ⟨_,rfl,rfl,ν71,bK,bW,hext,hlow,c8,hS⟩
  rintro a8 b8 w a he_ ⟨ν65,cM,cS,aN,hlow,rfl,a7,hS⟩ hF
  replace h:=H3 h he_
  replace hext:=hext.t aN
  replace hA3:=hA3.mono aN.1
  replace a0:=a0.mono aN.1
  replace a2:=a2.mono aN.1
  replace a4:=a4.mono aN.1
  refine rn 1 7 [(0,pb cb0),(2,pb b4),(3,pb a1),(16,.agg #[iv a3.1.Lo,iv a3.1.Hi]),(18,.agg #[iv a5.1.Lo,iv a5.1.Hi]),(20,.agg #[iv a8.1.Lo,iv a8.1.Hi]),(21,.pointer (some ⟨a1,1,none⟩))] hF fun a hF=>?_
  refine SK.wi (qm 146 2 1 [iv a3.1.Lo,iv a3.1.Hi] hF hS rfl fun w a hF hS=>?_)
  refine qn 1 9 [(22,.pointer (some ⟨a1,8,none⟩))] hF fun a hF=>?_
  refine SK.wi (qm 146 2 8 [iv a5.1.Lo,iv a5.1.Hi] hF hS rfl fun w a hF hS=>?_)
  refine qn 1 11 [(23,.pointer (some ⟨a1,10,none⟩))] hF fun a hF=>?_
  refine SK.wi (qm 146 2 10 [iv a8.1.Lo,iv a8.1.Hi] hF hS rfl fun w a hF hS=>wfn rfl ?_)
  refine esr<|qn 1 1 [(24,pb cb0)] hF fun a hF=>?_
  obtain ⟨dA,cG,h⟩:=A0 h
  refine Ee (fun b9=>[(0,pb cb0),(2,pb b4),(3,pb a1),(25,b9)]) hF kr ⟨kr⟩ (Ai F _ _ cG ν65 w0 w _ hlow a7 hS) (fun _=>⟨kr⟩) ?_ ?_
  ·rintro d0 w he_ ⟨ν85,bM,bY,aL,hlow,c9,hS⟩
   replace h:=H0 h he_
   replace hext:=hext.t aL
   replace hA3:=hA3.mono aL.1
   replace a0:=a0.mono aL.1
   replace a2:=a2.mono aL.1
   replace a4:=a4.mono aL.1
   replace a7:=a7.mono aL.1
   refine A6<|Az hF ?_
   obtain rfl:=Ae h
   replace hS:=hS.d3.d2
   exact .inr ⟨_,rfl,rfl,ν85,bM,bY,hext,hlow,c9,hS⟩
  rintro aH b9 w a he_ ⟨ν79,bL,bX,aK,hlow,rfl,a9,hS⟩ hF
  replace h:=H3 h he_
  replace hext:=hext.t aK
  replace hA3:=hA3.mono aK.1
  replace a0:=a0.mono aK.1
  replace a2:=a2.mono aK.1
  replace a4:=a4.mono aK.1
  replace a7:=a7.mono aK.1
  refine rn 1 3 [(0,pb cb0),(2,pb b4),(3,pb a1),(25,iv aH.1),(26,.pointer (some ⟨a1,7,none⟩))] hF fun a hF=>?_
  refine SK.wi (qs 3 2 7 (iv aH.1) hF hS rfl fun w a hF hS=>wfn rfl ?_)
  refine Am<|qoB [(29,.bool (y6.1==3))] hF (oL 3 2 0 hS.i rfl rfl<|A1) fun a hF=>?_
  refine A8 hF h (fun hc h=>?_) fun hc h=>?_
  ·refine WI.region<|qn 1 1 [(30,pb cb0)] hF fun a hF=>?_
   obtain ⟨dB,cH,h⟩:=A0 h
   refine Ee (fun bA=>[(0,pb cb0),(2,pb b4),(3,pb a1),(31,bA)]) hF kr ⟨kr⟩ (Cz F _ _ cH ν79 w0 w _ hlow a9 hS) (fun _=>⟨kr⟩) ?_ ?_
   ·rintro d1 w he_ ⟨ν99,bB,bN,aI,hlow,bZ,hS⟩
    replace h:=H0 h he_
    replace hext:=hext.t aI
    replace hA3:=hA3.mono aI.1
    replace a0:=a0.mono aI.1
    replace a2:=a2.mono aI.1
    replace a4:=a4.mono aI.1
    replace a7:=a7.mono aI.1
    replace a9:=a9.mono aI.1
    refine A6<|Az hF ?_
    obtain rfl:=Ae h
    replace hS:=hS.d3.d2
    exact .inr ⟨_,rfl,rfl,ν99,bB,bN,hext,hlow,bZ,hS⟩
   rintro a6 bA w a he_ ⟨ν93,cN,cT,aJ,hlow,rfl,aC,hS⟩ hF
   replace h:=H3 h he_
   replace hext:=hext.t aJ
   replace hA3:=hA3.mono aJ.1
   replace a0:=a0.mono aJ.1
   replace a2:=a2.mono aJ.1
   replace a4:=a4.mono aJ.1
   replace a7:=a7.mono aJ.1
   replace a9:=a9.mono aJ.1
   refine rn 1 3 [(0,pb cb0),(2,pb b4),(3,pb a1),(31,.agg #[iv a6.1.Lo,iv a6.1.Hi]),(32,pb cb0)] hF fun a hF=>?_
   obtain ⟨d4,cA,h⟩:=A0 h
   refine Ee (fun b2=>[(0,pb cb0),(2,pb b4),(3,pb a1),(31,.agg #[iv a6.1.Lo,iv a6.1.Hi]),(33,b2)]) hF kr ⟨kr⟩ (Cz F _ _ cA ν93 w0 w _ hlow aC hS) (fun _=>⟨kr⟩) ?_ ?_
   ·rintro cU w he_ ⟨ν113,bC,bO,aG,hlow,c0,hS⟩
    replace h:=H0 h he_
    replace hext:=hext.t aG
    replace hA3:=hA3.mono aG.1
    replace a0:=a0.mono aG.1
    replace a2:=a2.mono aG.1
    replace a4:=a4.mono aG.1
    replace a7:=a7.mono aG.1
    replace a9:=a9.mono aG.1
    replace aC:=aC.mono aG.1
    refine A6<|Az hF ?_
    obtain rfl:=Ae h
    replace hS:=hS.d3.d2
    exact .inr ⟨_,rfl,rfl,ν113,bC,bO,hext,hlow,c0,hS⟩
   rintro aA b2 w a he_ ⟨ν107,cJ,cO,aF,hlow,rfl,aM,hS⟩ hF
   replace h:=H3 h he_
   replace hext:=hext.t aF
   replace hA3:=hA3.mono aF.1
   replace a0:=a0.mono aF.1
   replace a2:=a2.mono aF.1
   replace a4:=a4.mono aF.1
   replace a7:=a7.mono aF.1
   replace a9:=a9.mono aF.1
   replace aC:=aC.mono aF.1
   refine rn 1 5 [(2,pb b4),(3,pb a1),(31,.agg #[iv a6.1.Lo,iv a6.1.Hi]),(33,.agg #[iv aA.1.Lo,iv aA.1.Hi]),(34,pb cb0)] hF fun a hF=>?_
   obtain ⟨d5,cB,h⟩:=A0 h
   refine Ee (fun b3=>[(2,pb b4),(3,pb a1),(31,.agg #[iv a6.1.Lo,iv a6.1.Hi]),(33,.agg #[iv aA.1.Lo,iv aA.1.Hi]),(35,b3)]) hF kr ⟨kr⟩ (Cz F _ _ cB ν107 w0 w _ hlow aM hS) (fun _=>⟨kr⟩) ?_ ?_
   ·rintro cV w he_ ⟨ν127,bE,bQ,aE,hlow,c2,hS⟩
    replace h:=H0 h he_
    replace hext:=hext.t aE
    replace hA3:=hA3.mono aE.1
    replace a0:=a0.mono aE.1
    replace a2:=a2.mono aE.1
    replace a4:=a4.mono aE.1
    replace a7:=a7.mono aE.1
    replace a9:=a9.mono aE.1
    replace aC:=aC.mono aE.1
    replace aM:=aM.mono aE.1
    refine A6<|Az hF ?_
    obtain rfl:=Ae h
    replace hS:=hS.d3.d2
    exact .inr ⟨_,rfl,rfl,ν127,bE,bQ,hext,hlow,c2,hS⟩
   rintro aB b3 w a he_ ⟨ν121,bD,bP,aD,hlow,rfl,c1,hS⟩ hF
   replace h:=H3 h he_
   replace hext:=hext.t aD
   replace hA3:=hA3.mono aD.1
   replace a0:=a0.mono aD.1
   replace a2:=a2.mono aD.1
   replace a4:=a4.mono aD.1
   replace a7:=a7.mono aD.1
   replace a9:=a9.mono aD.1
   replace aC:=aC.mono aD.1
   replace aM:=aM.mono aD.1
   refine ro 2 8 [(2,pb b4),(3,pb a1),(31,.agg #[iv a6.1.Lo,iv a6.1.Hi]),(33,.agg #[iv aA.1.Lo,iv aA.1.Hi]),(35,.agg #[iv aB.1.Lo,iv aB.1.Hi]),(37,.pointer (some ⟨a1,3,none⟩))] hF (oX (.run [] (Instr.indexAt 147 (.pointer (some ⟨a1,3,none⟩)) (iv 0)) (.pointer (some ⟨a1,3,none⟩))) (Bm kr)<|A1) fun a hF=>?_
   refine SK.wi (qm 146 2 3 [iv a6.1.Lo,iv a6.1.Hi] hF hS rfl fun w a hF hS=>?_)
   refine qo 2 11 [(39,.pointer (some ⟨a1,5,none⟩))] hF (oX (.run [] (Instr.indexAt 147 (.pointer (some ⟨a1,3,none⟩)) (iv 1)) (.pointer (some ⟨a1,5,none⟩))) (Bm kr)<|A1) fun a hF=>?_
   refine SK.wi (qm 146 2 5 [iv aA.1.Lo,iv aA.1.Hi] hF hS rfl fun w a hF hS=>?_)
   refine qn 1 13 [(40,.pointer (some ⟨a1,12,none⟩))] hF fun a hF=>?_
   refine SK.wi (qm 146 2 12 [iv aB.1.Lo,iv aB.1.Hi] hF hS rfl fun w a hF hS=>wfn rfl ?_)
   refine esr<|qo 1 1 [(41,.agg #[iv y6.1,iv a3.1.Lo,iv a3.1.Hi,iv a6.1.Lo,iv a6.1.Hi,iv aA.1.Lo,iv aA.1.Hi,iv aH.1,iv a5.1.Lo,iv a5.1.Hi,iv a8.1.Lo,iv a8.1.Hi,iv aB.1.Lo,iv aB.1.Hi])] hF (oN 149 2 0 14 hS.i rfl<|A1) fun a hF=>?_
   refine SK.wi (qw 149 3 #[iv y6.1,iv a3.1.Lo,iv a3.1.Hi,iv a6.1.Lo,iv a6.1.Hi,iv aA.1.Lo,iv aA.1.Hi,iv aH.1,iv a5.1.Lo,iv a5.1.Hi,iv a8.1.Lo,iv a8.1.Hi,iv aB.1.Lo,iv aB.1.Hi] hF hS rfl fun w a hF hS=>wfn rfl ?_)
   refine wpIn_ret (A7 [.cell 2 149] [_] hF rfl ⟨⟨_,rfl,Ea (cs:=[iv y6.1,iv a3.1.Lo,iv a3.1.Hi,iv a6.1.Lo,iv a6.1.Hi,iv aA.1.Lo,iv aA.1.Hi,iv aH.1,iv a5.1.Lo,iv a5.1.Hi,iv a8.1.Lo,iv a8.1.Hi,iv aB.1.Lo,iv aB.1.Hi]) kr ((hS.blk (i:=3) rfl).cells rfl)⟩,trivial⟩ ?_)
   obtain rfl:=Ae h
   replace hS:=hS.d3.d2
   exact .inl ⟨_,_,rfl,rfl,ν121,bD,bP,hext,hlow,rfl,c1,hS⟩
  ·refine wK<|esr<|qo 1 1 [(41,.agg #[iv y6.1,iv a3.1.Lo,iv a3.1.Hi,iv 0,iv 0,iv 0,iv 0,iv aH.1,iv a5.1.Lo,iv a5.1.Hi,iv a8.1.Lo,iv a8.1.Hi,iv 0,iv 0])] hF (oN 149 2 0 14 hS.i rfl<|A1) fun a hF=>?_
   refine SK.wi (qw 149 3 #[iv y6.1,iv a3.1.Lo,iv a3.1.Hi,iv 0,iv 0,iv 0,iv 0,iv aH.1,iv a5.1.Lo,iv a5.1.Hi,iv a8.1.Lo,iv a8.1.Hi,iv 0,iv 0] hF hS rfl fun w a hF hS=>wfn rfl ?_)
   refine wpIn_ret (A7 [.cell 2 149] [_] hF rfl ⟨⟨_,rfl,Ea (cs:=[iv y6.1,iv a3.1.Lo,iv a3.1.Hi,iv 0,iv 0,iv 0,iv 0,iv aH.1,iv a5.1.Lo,iv a5.1.Hi,iv a8.1.Lo,iv a8.1.Hi,iv 0,iv 0]) kr ((hS.blk (i:=3) rfl).cells rfl)⟩,trivial⟩ ?_)
   obtain rfl:=Ae h
   replace hS:=hS.d3.d2
   exact .inl ⟨_,_,rfl,rfl,ν79,bL,bX,hext,hlow,rfl,a9,hS⟩
theorem Qb (F:Nat) (p0:ref12_reader) (p1:Int) (res:((List api_Span)×ref12_reader)) (h:Ev F p0 p1=some res) (μ:Frz) (w0 w1:World) (T_:List Res) (hlow:Ax w0 μ) {cb0:Nat} {ad1:Option Addr} {cap2:Nat} (hA3:ArrM μ 1 (fK .u8) ad1 cap2 p0.b) (hS:St w0 (fz w0 μ::blk cb0 135 #[sv ad1 p0.b cap2,.bool p0.bad]::T_) w1):Ba Tryz.prog 103 #[pb cb0,iv p1] w1 (fun e w=>∃(ν_:Frz) (bB:Option Addr) (bF:Nat) (bC:Option Addr) (bG:Nat),μ.ext w0.heap.size ν_∧Ax w0 ν_∧e=(sv bB res.1 bF)∧ArrM ν_ 2 api_Span.cells bB bF res.1∧(ArrM ν_ 1 (fK .u8) bC bG res.2.b)∧St w0 (fz w0 ν_::blk cb0 135 #[sv bC res.2.b bG,.bool res.2.bad]::T_) w):=by
 rw [Ev] at h
 have hext:=Frz.ext_refl w0.heap.size μ
 refine feW Tryz.func103 61 [(0,pb cb0),(1,iv p1)] hS fun a w hF hS=>?_
 refine qnB [] hF fun a hF=>?_
 refine qnB [(5,.slice none 0 0)] hF fun a hF=>?_
 refine esr<|qn 1 1 [(10,.agg #[iv 0,iv 0])] hF fun a hF=>?_
 refine SK.wi (qA 146 #[iv 0,iv 0] (fun b4=>[(6,pb b4)]) hF hS fun b4 w a hF hS=>?_)
 refine SK.wi (qw 146 0 #[iv 0,iv 0] hF hS rfl fun w a hF hS=>wfn rfl ?_)
 have a5:=Frz.le_refl μ
 refine Dx (fun a w=>∃(b9:Int) (bA:Int) (aZ:(List Int)) (b3:Bool) (aF:(List api_Span)) (ν249:Frz) (aT:Option Addr) (aV:Nat) (aH:Option Addr) (aM:Nat),Fr 61 [] [(5,sv aH aF aM)] a∧St w0 (arr 146 2 api_Span.cells aH aF.length aM aF::blk b4 146 #[iv b9,iv bA]::fz w0 ν249::blk cb0 135 #[sv aT aZ aV,.bool b3]::T_) w∧(ArrM ν249 1 (fK .u8) aT aV aZ)∧(μ.le ν249)∧(μ.ext w0.heap.size ν249)∧(Ax w0 ν249)∧Bv b9 bA aZ b3 aF=some res) ?_ ?_
 ·skip
  refine wpIn_block ?_
  have bH:=Frz.le_refl μ
  replace hS:=hS.nilarr 146 2 api_Span.cells
  refine Ck (fun n_ a w=>∃(a1:Int) (a2:Int) (aB:(List Int)) (a9:Bool) (a4:(List api_Span)) (ν424:Frz) (aI:Option Addr) (aN:Nat) (aC:Option Addr) (aD:Nat),Fr 61 [] [(0,pb cb0),(1,iv p1),(5,sv aC a4 aD),(6,pb b4)] a∧St w0 (arr 146 2 api_Span.cells aC a4.length aD a4::blk b4 146 #[iv a1,iv a2]::fz w0 ν424::blk cb0 135 #[sv aI aB aN,.bool a9]::T_) w∧(ArrM ν424 1 (fK .u8) aI aN aB)∧(μ.le ν424)∧(μ.ext w0.heap.size ν424)∧(Ax w0 ν424)∧Bj F p1 n_ a1 a2 aB a9 a4=some res) F ⟨0,0,p0.b,p0.bad,[],μ,ad1,cap2,none,0,hF.sub kr,hS,hA3,bH,hext,hlow,h⟩ ?_
  clear bH
  rintro nk2 a w ⟨a1,a2,aB,a9,a4,ν424,aI,aN,aC,aD,hF,hS,aA,a6,hext,hlow,h⟩
  rcases nk2 with _|nk2
  ·cases (show (none:Option ((List api_Span)×ref12_reader))=some res from h)
  replace hA3:=hA3.mono a6
  replace a5:=a5.t a6
  obtain ⟨k2,hk2⟩:∃k,k=Bj F p1 nk2:=⟨_,rfl⟩
  replace h:Dz F p1 k2 a1 a2 aB a9 a4=some res:=by rw [hk2];exact h
  rw [Dz] at h
  refine Am<|esr<|qn 5 5 [(15,.bool (decide ((ln a4)<p1)))] hF fun a hF=>?_
  rcases Bool.eq_false_or_eq_true ((decide ((ln a4)<p1))) with aR|aR
  ·replace h:=Gx h aR
   rw [aR] at hF
   refine qo 6 11 [(21,.bool (!a9))] hF (oGs [⟨15,true,true⟩] (oL 4 3 1 hS.i rfl rfl<|A1)<|A1) fun a hF=>wfn rfl ?_
   refine A8 hF h (fun hc h=>?_) fun hc h=>?_
   ·refine wK<|wpIn_block<|esr ?_
    obtain ⟨bW,bR,h⟩:=A0 h
    refine qo 5 5 [(22,pb cb0),(26,iv bW)] hF (oS 3 bR<|A1) fun a hF=>?_
    obtain ⟨a3,bT,h⟩:=A0 h
    replace hS:=hS.s3.s3
    refine SK.wi (qR (fun bI=>[(27,bI)]) hF (Mi F _ _ _ bT ν424 w0 w _ hlow aA hS) ?_)
    rintro bI w a ⟨ν440,b1,b5,aS,hlow,rfl,aX,hS⟩ hF
    replace hext:=hext.t aS
    replace hA3:=hA3.mono aS.1
    replace aA:=aA.mono aS.1
    replace a5:=a5.t aS.1
    replace a6:=a6.t aS.1
    refine qn 1 7 [(7,iv a3.1)] hF fun a hF=>wfn rfl ?_
    refine Dx (fun a w=>∃(a7:(List api_Span)) (aJ:Option Addr) (aO:Nat),Fr 61 [] [(0,pb cb0),(1,iv p1),(5,sv aJ a7 aO),(6,pb b4)] a∧St w0 (arr 146 2 api_Span.cells aJ a7.length aO a7::fz w0 ν440::blk cb0 135 #[sv b1 a3.2.b b5,.bool a3.2.bad]::blk b4 146 #[iv a1,iv a2]::T_) w∧Es F p1 a1 a2 k2 a3 a7=some res) ?_ ?_
    ·skip
     refine qnB [(8,iv 0)] hF fun a hF=>?_
     refine wpIn_block<|Ck (fun n_ a w=>∃(a8:(List api_Span)) (aG:Int) (aK:Option Addr) (aP:Nat),Fr 61 [] [(0,pb cb0),(1,iv p1),(5,sv aK a8 aP),(6,pb b4),(7,iv a3.1),(8,iv aG)] a∧St w0 (arr 146 2 api_Span.cells aK a8.length aP a8::fz w0 ν440::blk cb0 135 #[sv b1 a3.2.b b5,.bool a3.2.bad]::blk b4 146 #[iv a1,iv a2]::T_) w∧C7 F p1 a1 a2 k2 a3 n_ a8 aG=some res) F ⟨a4,0,aC,aD,hF.sub kr,hS.s2,h⟩ ?_
     rintro nk4 a w ⟨a8,aG,aK,aP,hF,hS,h⟩
     rcases nk4 with _|nk4
     ·cases (show (none:Option ((List api_Span)×ref12_reader))=some res from h)
     obtain ⟨k4,hk4⟩:∃k,k=C7 F p1 a1 a2 k2 a3 nk4:=⟨_,rfl⟩
     replace h:G9 F p1 a1 a2 k2 a3 k4 a8 aG=some res:=by rw [hk4];exact h
     rw [G9] at h
     refine Am<|qnB [(30,.bool (decide (aG<a3.1)))] hF fun a hF=>?_
     refine A8 hF h (fun hc h=>?_) fun hc h=>?_
     ·refine wK<|Am<|wpIn_block<|WI.region<|qo 2 2 [(33,sv aK a8 aP),(34,.agg #[iv a1,iv a2])] hF (oN 146 3 0 2 hS.i rfl<|A1) fun a hF=>?_
      refine SK.wi (qL 146 44 1 [(api_Span.mk a1 a2)] (fun bE=>[(35,sb bE 1)]) api_Span.cells_len hF hS fun bE w a hF hS=>?_)
      obtain ⟨b0,bQ,h⟩:=A0 h
      refine SK.wi (qP 44 44 1 (fun aL aQ=>[(36,sv aL b0 aQ)]) hF hS (hS.arr (i:=0) rfl) bQ rfl fun aL aQ w a hF hS=>?_)
      refine rn 1 5 [(0,pb cb0),(1,iv p1),(5,sv aL b0 aQ),(6,pb b4),(7,iv a3.1),(8,iv aG)] hF fun a hF=>WI.fin rfl (A9<|A3<|?_)
      refine WI.region ?_
      obtain ⟨bK,bS,h⟩:=A0 h
      refine ro 3 3 [(0,pb cb0),(1,iv p1),(5,sv aL b0 aQ),(6,pb b4),(7,iv a3.1),(8,iv bK)] hF (oA 3 bS<|A1) fun a hF=>wfn rfl ?_
      rw [hk4] at h
      exact ⟨nk4,Nat.lt_succ_self _,b0,bK,aL,aQ,hF.sub kr,hS.d0,h⟩
     ·refine wpIn_exit (A5<|A5<|Ar<|A3 ?_)
      exact ⟨a8,aK,aP,hF.sub kr,hS,h⟩
    rintro a w ⟨a7,aJ,aO,hF,hS,h⟩
    rw [Es] at h
    refine qnB [(40,.bool (decide ((ln a7)<p1)))] hF fun a hF=>?_
    refine A8 hF h (fun hc h=>?_) fun hc h=>?_
    ·refine esr<|qn 1 1 [(41,pb cb0)] hF fun a hF=>?_
     obtain ⟨a0,bU,h⟩:=A0 h
     replace hS:=hS.s2.s2
     refine SK.wi (qR (fun bJ=>[(42,bJ)]) hF (Di F _ _ bU ν440 w0 w _ hlow aX hS) ?_)
     rintro bJ w a ⟨ν474,bL,bM,aE,hlow,rfl,bO,hS⟩ hF
     replace hext:=hext.t aE
     replace hA3:=hA3.mono aE.1
     replace aA:=aA.mono aE.1
     replace aX:=aX.mono aE.1
     replace a5:=a5.t aE.1
     replace a6:=a6.t aE.1
     refine SK.wi (qA 146 #[iv 0,iv 0] (fun b2=>[(9,pb b2),(42,.agg #[iv a0.1.Lo,iv a0.1.Hi])]) hF hS fun b2 w a hF hS=>?_)
     refine SK.wi (qw 146 0 #[iv a0.1.Lo,iv a0.1.Hi] hF hS rfl fun w a hF hS=>wfn rfl ?_)
     refine esr<|qo 12 12 [(52,.bool (bif a0.2.bad then true else (((a0.1.Lo:Int)==a1)&&(((a0.1.Hi:Int)==a2)&&true)))),(54,.pointer (some ⟨cb0,1,none⟩))] hF (oL 4 2 1 hS.i rfl rfl<|oGs [⟨48,false,a0.2.bad⟩] (oN 146 0 0 2 hS.i rfl<|oN 146 4 0 2 hS.i rfl<|oX (.run [] (eqS .eql 146 #[iv a0.1.Lo,iv a0.1.Hi] #[iv a1,iv a2]) (.bool (((a0.1.Lo:Int)==a1)&&(((a0.1.Hi:Int)==a2)&&true)))) (La kr kr)<|A1)<|A1) fun a hF=>?_
     refine SK.wi (qs 4 2 1 (.bool (bif a0.2.bad then true else (((a0.1.Lo:Int)==a1)&&(((a0.1.Hi:Int)==a2)&&true)))) hF hS rfl fun w a hF hS=>wfn rfl ?_)
     refine esr<|qo 2 2 [(55,sv aJ a7 aO),(56,.agg #[iv a0.1.Lo,iv a0.1.Hi])] hF (oN 146 0 0 2 hS.i rfl<|A1) fun a hF=>?_
     refine SK.wi (qL 146 44 1 [(api_Span.mk a0.1.Lo a0.1.Hi)] (fun bD=>[(57,sb bD 1)]) api_Span.cells_len hF hS fun bD w a hF hS=>?_)
     obtain ⟨b8,bP,h⟩:=A0 h
     refine SK.wi (qP 44 44 4 (fun aU aW=>[(58,sv aU b8 aW)]) hF hS (hS.arr (i:=0) rfl) bP rfl fun aU aW w a hF hS=>?_)
     refine rn 1 5 [(0,pb cb0),(1,iv p1),(5,sv aU b8 aW),(6,pb b4),(9,pb b2)] hF fun a hF=>wfn rfl ?_
     refine WI.region<|qo 1 1 [(59,.agg #[iv a0.1.Lo,iv a0.1.Hi])] hF (oN 146 1 0 2 hS.i rfl<|A1) fun a hF=>?_
     refine SK.wi (qw 146 5 #[iv a0.1.Lo,iv a0.1.Hi] hF hS rfl fun w a hF hS=>WI.fin rfl (A9<|A3<|?_))
     rw [hk2] at h
     exact ⟨nk2,Nat.lt_succ_self _,a0.1.Lo,a0.1.Hi,a0.2.b,bif a0.2.bad then true else (((a0.1.Lo:Int)==a1)&&(((a0.1.Hi:Int)==a2)&&true)),b8,ν474,bL,bM,aU,aW,hF.sub kr,hS.d1.d0.s3.s3,bO,a6,hext,hlow,h⟩
    ·refine wpIn_skip (A9<|A3<|?_)
     rw [hk2] at h
     exact ⟨nk2,Nat.lt_succ_self _,a1,a2,a3.2.b,a3.2.bad,a7,ν440,b1,b5,aJ,aO,hF.sub kr,hS.s3.s1,aX,a6,hext,hlow,h⟩
   ·refine wpIn_exit (A5<|A5<|Ar<|A3 ?_)
    exact ⟨a1,a2,aB,a9,a4,ν424,aI,aN,aC,aD,hF.sub kr,hS,aA,a5,hext,hlow,h⟩
  ·replace h:=Gw h aR
   rw [aR] at hF
   refine qk 6 [(15,.bool false),(16,undef)] hF fun a hF=>?_
   refine qk 7 [(17,undef)] hF fun a hF=>?_
   refine qk 8 [(18,undef)] hF fun a hF=>?_
   refine qk 9 [(19,undef)] hF fun a hF=>?_
   refine qk 10 [(20,undef)] hF fun a hF=>?_
   refine qn 1 11 [(21,.bool false)] hF fun a hF=>wfn rfl ?_
   refine wpIn_cond_false (hF.get rfl) ?_
   refine wpIn_exit (A5<|A5<|Ar<|A3 ?_)
   exact ⟨a1,a2,aB,a9,a4,ν424,aI,aN,aC,aD,hF.sub kr,hS,aA,a5,hext,hlow,h⟩
 clear a5
 rintro a w ⟨b9,bA,aZ,b3,aF,ν249,aT,aV,aH,aM,hF,hS,b6,b7,hext,hlow,h⟩
 replace hA3:=hA3.mono b7
 rw [Bv] at h
 refine rnB [(4,sv aH aF aM)] hF fun a hF=>?_
 refine wpIn_ret (A7 [.tmp 4] [_] hF rfl ⟨rfl,trivial⟩ ?_)
 obtain ⟨ν261,aY,hlow,hS,bV⟩:=hS.freeze (i:=2) (j:=0) rfl rfl (by decide) hlow
 replace hA3:=hA3.mono aY.1
 replace b6:=b6.mono aY.1
 replace b7:=b7.t aY.1
 replace hext:=hext.t aY
 have bN:=ArrM.of_arr bV
 obtain rfl:=Ae h
 replace hS:=hS.d0
 exact ⟨_,rfl,ν261,aH,aM,aT,aV,hext,hlow,rfl,bN,b6,hS⟩
theorem Vm (F:Nat) (p0:(List api_Span)) (res:(List Int)) (h:L0 F p0=some res) (μ:Frz) (w0:World) (hm:FrzAt μ w0) {ad1:Option Addr} {cap2:Nat} (hA3:ArrM μ 2 api_Span.cells ad1 cap2 p0):Ba Tryz.prog 108 #[sv ad1 p0 cap2] w0 (fun e w=>∃zad0 zcap0,e=(sv zad0 res zcap0)∧St w0 [arr 5 1 (fK .u8) zad0 res.length zcap0 res] w):=by
 obtain ⟨hlow,hS⟩:=hm.init
 have hext:=Frz.ext_refl w0.heap.size μ
 rw [L0] at h
 refine feW Tryz.func108 55 [(0,sv ad1 p0 cap2)] hS fun a w hF hS=>?_
 refine qnB [] hF fun a hF=>?_
 refine qnB [(3,.slice none 0 0)] hF fun a hF=>?_
 refine esr<|qn 1 1 [(7,.agg #[iv 0,iv 0])] hF fun a hF=>?_
 refine SK.wi (qA 146 #[iv 0,iv 0] (fun b4=>[(4,pb b4)]) hF hS fun b4 w a hF hS=>?_)
 refine SK.wi (qw 146 0 #[iv 0,iv 0] hF hS rfl fun w a hF hS=>wfn rfl ?_)
 refine Dx (fun a w=>∃(aM:Int) (aN:Int) (a9:(List Int)) (aI:Option Addr) (aJ:Nat),Fr 55 [] [(3,sv aI a9 aJ)] a∧St w0 [arr 5 1 (fK .u8) aI a9.length aJ a9,blk b4 146 #[iv aM,iv aN],fz w0 μ] w∧Jy aM aN a9=some res) ?_ ?_
 ·skip
  refine qnB [(5,iv 0)] hF fun a hF=>?_
  refine wpIn_block ?_
  replace hS:=hS.nilarr 5 1 (fK .u8)
  refine Ck (fun n_ a w=>∃(a1:Int) (a2:Int) (a0:(List Int)) (a3:Int) (a4:Option Addr) (a5:Nat),Fr 55 [] [(0,sv ad1 p0 cap2),(3,sv a4 a0 a5),(4,pb b4),(5,iv a3)] a∧St w0 [arr 5 1 (fK .u8) a4 a0.length a5 a0,blk b4 146 #[iv a1,iv a2],fz w0 μ] w∧Gi F p0 n_ a1 a2 a0 a3=some res) F ⟨0,0,[],0,none,0,hF.sub kr,St.pick [0,1,2] (by decide) hS,h⟩ ?_
  rintro nk2 a w ⟨a1,a2,a0,a3,a4,a5,hF,hS,h⟩
  rcases nk2 with _|nk2
  ·cases (show (none:Option (List Int))=some res from h)
  obtain ⟨k2,hk2⟩:∃k,k=Gi F p0 nk2:=⟨_,rfl⟩
  replace h:Jx F p0 k2 a1 a2 a0 a3=some res:=by rw [hk2];exact h
  rw [Jx] at h
  refine Am<|qnB [(11,.bool (decide (a3<(ln p0))))] hF fun a hF=>?_
  refine A8 hF h (fun hc h=>?_) fun hc h=>?_
  ·refine wK<|wpIn_block<|qnB [(6,iv 0)] hF fun a hF=>?_
   refine Dx (fun a w=>∃(aF:Int),Fr 55 [] [(0,sv ad1 p0 cap2),(3,sv a4 a0 a5),(4,pb b4),(5,iv a3),(6,iv aF)] a∧St w0 [arr 5 1 (fK .u8) a4 a0.length a5 a0,blk b4 146 #[iv a1,iv a2],fz w0 μ] w∧Jz F p0 a1 a2 a0 a3 k2 aF=some res) ?_ ?_
   ·skip
    refine wpIn_block<|Ck (fun n_ a w=>∃(aB:Int),Fr 55 [] [(0,sv ad1 p0 cap2),(3,sv a4 a0 a5),(4,pb b4),(5,iv a3),(6,iv aB)] a∧St w0 [arr 5 1 (fK .u8) a4 a0.length a5 a0,blk b4 146 #[iv a1,iv a2],fz w0 μ] w∧Hp F p0 a1 a2 a0 a3 k2 n_ aB=some res) F ⟨0,hF.sub kr,St.pick [0,1,2] (by decide) hS,h⟩ ?_
    rintro nk4 a w ⟨aB,hF,hS,h⟩
    rcases nk4 with _|nk4
    ·cases (show (none:Option (List Int))=some res from h)
    obtain ⟨k4,hk4⟩:∃k,k=Hp F p0 a1 a2 a0 a3 k2 nk4:=⟨_,rfl⟩
    replace h:Le F p0 a1 a2 a0 a3 k2 k4 aB=some res:=by rw [hk4];exact h
    rw [Le] at h
    refine Am<|Am ?_
    obtain ⟨aG,b0,h⟩:=A0 h
    obtain ⟨aH,b1,h⟩:=A0 h
    obtain ⟨a6,aQ,h⟩:=A0 h
    refine qD 16 [(27,.bool (bif (decide (aG<(ln p0))) then (((a6.Lo:Int)==a1)&&(((a6.Hi:Int)==a2)&&true)) else false))] hF (oA 3 b0<|oX (.run [⟨18,true,(decide (aG<(ln p0)))⟩] (binOp .add 3 (iv a3) (iv aB)) (iv aH)) (Ve (fun hk=>Bt b1 hk))<|oX (.run [⟨18,true,(decide (aG<(ln p0)))⟩] (Instr.indexAt 44 (sv ad1 p0 cap2) (iv aH)) (.pointer (some (Bl ad1 aH 2)))) (J0 (hA3 _ (hS.frz (i:=2) rfl hlow)) kr (fun hk=>Bt aQ hk))<|oX (.run [⟨18,true,(decide (aG<(ln p0)))⟩] (Instr.loadAt 146 (.pointer (some (Bl ad1 aH 2)))) (.agg #[iv a6.Lo,iv a6.Hi])) (Tv (m:=2) (i:=aH) (us:=[iv a6.Lo,iv a6.Hi]) 0 api_Span.cells_len (fun _ hd=>(hA3 _ ((hS.later hd).frz (i:=2) rfl hlow))) kr (fun hk=>Bt aQ hk) ⟨rfl,rfl⟩)<|oGs [⟨18,true,(decide (aG<(ln p0)))⟩] (oN 146 1 0 2 hS.e rfl<|oX (.run [] (eqS .eql 146 #[iv a6.Lo,iv a6.Hi] #[iv a1,iv a2]) (.bool (((a6.Lo:Int)==a1)&&(((a6.Hi:Int)==a2)&&true)))) (La kr kr)<|A1)<|A1) fun a w hF hx=>?_
    replace hS:=hS.later hx
    refine wfn rfl ?_
    refine A8 hF h (fun hc h=>?_) fun hc h=>?_
    ·refine wK<|wpIn_block<|WI.region ?_
     obtain ⟨aV,b2,h⟩:=A0 h
     refine ro 3 3 [(0,sv ad1 p0 cap2),(3,sv a4 a0 a5),(4,pb b4),(5,iv a3),(6,iv aV)] hF (oA 3 b2<|A1) fun a hF=>WI.fin rfl (A9<|A3<|?_)
     rw [hk4] at h
     exact ⟨nk4,Nat.lt_succ_self _,aV,hF.sub kr,St.pick [0,1,2] (by decide) hS,h⟩
    ·refine wpIn_exit (A5<|A5<|Ar<|A3 ?_)
     exact ⟨aB,hF.sub kr,St.pick [0,1,2] (by decide) hS,h⟩
   rintro a w ⟨aF,hF,hS,h⟩
   rw [Jz] at h
   refine esr<|qn 2 2 [(30,sv a4 a0 a5),(31,iv aF)] hF fun a hF=>?_
   obtain ⟨bA,b3,h⟩:=A0 h
   refine SK.wi (qR (fun aS=>[(32,aS)]) hF (At F _ _ b3 (B0 w) w (A4 w)) ?_)
   rintro aS w a ⟨b6,b8,rfl,hQ⟩ hF
   replace hS:=hS.madeL hQ
   obtain ⟨aE,aW,h⟩:=A0 h
   refine SK.wi (qP 22 22 1 (fun a7 a8=>[(33,sv a7 aE a8)]) hF hS (hS.arr (i:=0) rfl) aW rfl fun a7 a8 w a hF hS=>?_)
   refine rn 1 5 [(0,sv ad1 p0 cap2),(3,sv a7 aE a8),(4,pb b4),(5,iv a3),(6,iv aF)] hF fun a hF=>wfn rfl ?_
   refine esr ?_
   obtain ⟨aL,aY,h⟩:=A0 h
   refine ro 4 4 [(0,sv ad1 p0 cap2),(3,sv a7 aE a8),(4,pb b4),(5,iv aL)] hF (oA 3 aY<|A1) fun a hF=>wfn rfl ?_
   refine qnB [(40,.bool (decide (aL<(ln p0))))] hF fun a hF=>?_
   refine A8 hF h (fun hc h=>?_) fun hc h=>?_
   ·refine esr ?_
    obtain ⟨aR,aO,h⟩:=A0 h
    refine qo 5 5 [(41,sv a7 aE a8),(45,.agg #[iv aR.Lo,iv aR.Hi])] hF (oI 44 (hA3 _ (hS.frz (i:=3) rfl hlow)) aO<|oG 146 0 2 api_Span.cells_len (fun _ hd=>(hA3 _ ((hS.at_ hd).frz (i:=3) rfl hlow))) aO<|A1) fun a hF=>?_
    obtain ⟨bB,b5,h⟩:=A0 h
    refine SK.wi (qR (fun aT=>[(46,aT)]) hF (Hc F _ _ b5 (B0 w) w (A4 w)) ?_)
    rintro aT w a ⟨b7,b9,rfl,hQ⟩ hF
    replace hS:=hS.madeL hQ
    obtain ⟨aK,aX,h⟩:=A0 h
    refine SK.wi (qP 22 22 2 (fun aC aD=>[(47,sv aC aK aD)]) hF hS (hS.arr (i:=0) rfl) aX rfl fun aC aD w a hF hS=>?_)
    refine rn 1 8 [(0,sv ad1 p0 cap2),(3,sv aC aK aD),(4,pb b4),(5,iv aL)] hF fun a hF=>wfn rfl ?_
    refine esr ?_
    obtain ⟨aA,aP,h⟩:=A0 h
    refine qo 4 4 [(51,.agg #[iv aA.Lo,iv aA.Hi])] hF (oI 44 (hA3 _ (hS.frz (i:=4) rfl hlow)) aP<|oG 146 0 2 api_Span.cells_len (fun _ hd=>(hA3 _ ((hS.at_ hd).frz (i:=4) rfl hlow))) aP<|A1) fun a hF=>?_
    refine SK.wi (qw 146 3 #[iv aA.Lo,iv aA.Hi] hF hS rfl fun w a hF hS=>wfn rfl ?_)
    refine WI.region ?_
    obtain ⟨aU,aZ,h⟩:=A0 h
    refine ro 3 3 [(0,sv ad1 p0 cap2),(3,sv aC aK aD),(4,pb b4),(5,iv aU)] hF (oA 3 aZ<|A1) fun a hF=>WI.fin rfl (A9<|A3<|?_)
    rw [hk2] at h
    exact ⟨nk2,Nat.lt_succ_self _,aA.Lo,aA.Hi,aK,aU,aC,aD,hF.sub kr,St.pick [2,3,4] (by decide) hS,h⟩
   ·refine wpIn_skip (A9<|A3<|?_)
    rw [hk2] at h
    exact ⟨nk2,Nat.lt_succ_self _,a1,a2,aE,aL,a7,a8,hF.sub kr,St.pick [1,2,3] (by decide) hS,h⟩
  ·refine wpIn_exit (A5<|A5<|Ar<|A3 ?_)
   exact ⟨a1,a2,a0,a4,a5,hF.sub kr,St.pick [0,1,2] (by decide) hS,h⟩
 rintro a w ⟨aM,aN,a9,aI,aJ,hF,hS,h⟩
 rw [Jy] at h
 refine rnB [(2,sv aI a9 aJ)] hF fun a hF=>?_
 refine wpIn_ret (A7 [.tmp 2] [_] hF rfl ⟨rfl,trivial⟩ ?_)
 obtain rfl:=Ae h
 exact ⟨_,rfl,_,_,rfl,St.pick [0] (by decide) hS⟩
end Go.Proofs.YtifbomimeodibaaGreat
