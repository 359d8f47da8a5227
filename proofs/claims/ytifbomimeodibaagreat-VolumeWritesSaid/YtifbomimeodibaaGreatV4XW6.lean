import Derived.Test.YtifbomimeodibaaGreatV4XD
import Derived.Test.YtifbomimeodibaaGreatProg
import Derived.Test.YtifbomimeodibaaGreatV4XW0
import Derived.Test.YtifbomimeodibaaGreatV4XW1
import Derived.Test.YtifbomimeodibaaGreatV4XW2
import Derived.Test.YtifbomimeodibaaGreatV4XW4
import Derived.Test.YtifbomimeodibaaGreatV4XW5
namespace Go.Proofs.YtifbomimeodibaaGreat
open Go Go.RowKit Go.Eng
set_option maxRecDepth 10000
set_option maxHeartbeats 4000000
set_option linter.unusedVariables false
set_option linter.unusedSimpArgs false
theorem Nq (F:Nat) (p0:volume_reader) (res:Except (Value×volume_reader) (api_Echo×volume_reader)) (h:Hs F p0=some res) (μ:Frz) (w0 w1:World) (T_:List Res) (hlow:B2 w0 μ) {cb0:Nat} {ad1:Option Addr} {cap2:Nat} (hA3:ArrM μ 1 (fK .u8) ad1 cap2 p0.b) (hS:St w0 (fz w0 μ::blk cb0 125 #[sv ad1 p0.b cap2]::T_) w1):Nc Tryz.prog 95 #[pb cb0] w1 res (fun r_ e w=>∃(ν_:Frz) (aW:Option Addr) (aY:Nat),μ.ext w0.heap.size ν_∧B2 w0 ν_∧e=(r_.1.ag)∧(ArrM ν_ 1 (fK .u8) aW aY r_.2.b)∧St w0 (fz w0 ν_::blk cb0 125 #[sv aW r_.2.b aY]::T_) w) (fun e_ w=>∃(ν_:Frz) (aX:Option Addr) (aZ:Nat),μ.ext w0.heap.size ν_∧B2 w0 ν_∧(ArrM ν_ 1 (fK .u8) aX aZ e_.b)∧St w0 (fz w0 ν_::blk cb0 125 #[sv aX e_.b aZ]::T_) w):=by
 rw [Hs] at h
 have hext:=Frz.ext_refl w0.heap.size μ
 refine feW Tryz.func95 42 [(0,pb cb0)] hS fun a w hF hS=>?_
 refine esr<|SK.wi (qA 149 Zg (fun b4=>[(2,pb b4)]) hF hS fun b4 w a hF hS=>wfn rfl ?_)
 refine esr<|qn 1 1 [(4,pb cb0)] hF fun a hF=>?_
 obtain ⟨y5,hy5,h⟩:=A0 h
 replace hS:=hS.s2.s2
 refine D6 (fun b1=>[(0,pb cb0),(2,pb b4),(5,b1)]) hF kr ⟨kr⟩ (Af F _ _ hy5 μ w0 w _ hlow hA3 hS) (fun _=>⟨kr⟩) ?_ ?_
 ·rintro e7 w he_ ⟨ν14,bF,bR,b0,hlow,c3,hS⟩
  replace h:=Fe h he_
  replace hext:=hext.t b0
  replace hA3:=hA3.mono b0.1
  refine A5<|Au hF ?_
  obtain rfl:=Ai h
  replace hS:=hS.d2
  exact .inr ⟨_,rfl,rfl,ν14,bF,bR,hext,hlow,c3,hS⟩
 rintro y6 b1 w a he_ ⟨ν8,cI,cP,hx9,hlow,rfl,a0,hS⟩ hF
 replace h:=Ff h he_
 replace hext:=hext.t hx9
 replace hA3:=hA3.mono hx9.1
 refine rn 1 3 [(0,pb cb0),(2,pb b4),(6,.agg #[iv y6.1,iv 0,iv 0,iv 0,iv 0,iv 0,iv 0,iv 0,iv 0,iv 0,iv 0,iv 0,iv 0,iv 0])] hF fun a hF=>?_
 refine SK.wi (qA 149 Zg (fun a1=>[(3,pb a1)]) hF hS fun a1 w a hF hS=>?_)
 refine SK.wi (qw 149 0 #[iv y6.1,iv 0,iv 0,iv 0,iv 0,iv 0,iv 0,iv 0,iv 0,iv 0,iv 0,iv 0,iv 0,iv 0] hF hS rfl fun w a hF hS=>wfn rfl ?_)
 refine Ak<|qoB [(9,.bool (y6.1==1))] hF (oL 3 0 0 hS.i rfl rfl<|A3) fun a hF=>?_
 refine A8 hF h (fun hc h=>?_) fun hc h=>?_
 ·refine esr<|qn 1 1 [(10,pb cb0)] hF fun a hF=>?_
  obtain ⟨d6,cC,h⟩:=A0 h
  replace hS:=hS.s2.s2
  refine D6 (fun b5=>[(2,pb b4),(3,pb a1),(11,b5)]) hF kr ⟨kr⟩ (Af F _ _ cC ν8 w0 w _ hlow a0 hS) (fun _=>⟨kr⟩) ?_ ?_
  ·rintro cW w he_ ⟨ν29,bH,bT,aT,hlow,c5,hS⟩
   replace h:=Fe h he_
   replace hext:=hext.t aT
   replace hA3:=hA3.mono aT.1
   replace a0:=a0.mono aT.1
   refine A5<|A5<|Au hF ?_
   obtain rfl:=Ai h
   replace hS:=hS.d3.d2
   exact .inr ⟨_,rfl,rfl,ν29,bH,bT,hext,hlow,c5,hS⟩
  rintro aP b5 w a he_ ⟨ν23,bG,bS,aS,hlow,rfl,c4,hS⟩ hF
  replace h:=Ff h he_
  replace hext:=hext.t aS
  replace hA3:=hA3.mono aS.1
  replace a0:=a0.mono aS.1
  refine rn 2 4 [(2,pb b4),(3,pb a1),(11,iv aP.1),(13,.pointer (some ⟨a1,2,none⟩))] hF fun a hF=>?_
  refine SK.wi (qs 3 2 2 (iv aP.1) hF hS rfl fun w a hF hS=>wfn rfl ?_)
  refine esr<|qo 1 1 [(14,.agg #[iv y6.1,iv 0,iv aP.1,iv 0,iv 0,iv 0,iv 0,iv 0,iv 0,iv 0,iv 0,iv 0,iv 0,iv 0])] hF (oN 149 2 0 14 hS.i rfl<|A3) fun a hF=>?_
  refine SK.wi (qw 149 3 #[iv y6.1,iv 0,iv aP.1,iv 0,iv 0,iv 0,iv 0,iv 0,iv 0,iv 0,iv 0,iv 0,iv 0,iv 0] hF hS rfl fun w a hF hS=>wfn rfl ?_)
  refine wpIn_ret (A2<|A9 [.cell 2 149] [_] hF rfl ⟨⟨_,rfl,M7 (cs:=[iv y6.1,iv 0,iv aP.1,iv 0,iv 0,iv 0,iv 0,iv 0,iv 0,iv 0,iv 0,iv 0,iv 0,iv 0]) kr ((hS.blk (i:=3) rfl).cells rfl)⟩,trivial⟩ ?_)
  obtain rfl:=Ai h
  replace hS:=hS.d3.d2
  exact .inl ⟨_,_,rfl,rfl,ν23,bG,bS,hext,hlow,rfl,c4,hS⟩
 ·refine wK<|esr<|qn 1 1 [(15,pb cb0)] hF fun a hF=>?_
  obtain ⟨d7,cD,h⟩:=A0 h
  replace hS:=hS.s2.s2
  refine D6 (fun b6=>[(0,pb cb0),(2,pb b4),(3,pb a1),(16,b6)]) hF kr ⟨kr⟩ (C5 F _ _ cD ν8 w0 w _ hlow a0 hS) (fun _=>⟨kr⟩) ?_ ?_
  ·rintro cX w he_ ⟨ν43,bI,bU,aV,hlow,c6,hS⟩
   replace h:=Fe h he_
   replace hext:=hext.t aV
   replace hA3:=hA3.mono aV.1
   replace a0:=a0.mono aV.1
   refine A5<|Au hF ?_
   obtain rfl:=Ai h
   replace hS:=hS.d3.d2
   exact .inr ⟨_,rfl,rfl,ν43,bI,bU,hext,hlow,c6,hS⟩
  rintro a3 b6 w a he_ ⟨ν37,cK,cQ,aU,hlow,rfl,a2,hS⟩ hF
  replace h:=Ff h he_
  replace hext:=hext.t aU
  replace hA3:=hA3.mono aU.1
  replace a0:=a0.mono aU.1
  refine rn 1 3 [(0,pb cb0),(2,pb b4),(3,pb a1),(16,.agg #[iv a3.1.Lo,iv a3.1.Hi]),(17,pb cb0)] hF fun a hF=>?_
  obtain ⟨d8,cE,h⟩:=A0 h
  refine D6 (fun b7=>[(0,pb cb0),(2,pb b4),(3,pb a1),(16,.agg #[iv a3.1.Lo,iv a3.1.Hi]),(18,b7)]) hF kr ⟨kr⟩ (C5 F _ _ cE ν37 w0 w _ hlow a2 hS) (fun _=>⟨kr⟩) ?_ ?_
  ·rintro cY w he_ ⟨ν57,bJ,bV,aR,hlow,c7,hS⟩
   replace h:=Fe h he_
   replace hext:=hext.t aR
   replace hA3:=hA3.mono aR.1
   replace a0:=a0.mono aR.1
   replace a2:=a2.mono aR.1
   refine A5<|Au hF ?_
   obtain rfl:=Ai h
   replace hS:=hS.d3.d2
   exact .inr ⟨_,rfl,rfl,ν57,bJ,bV,hext,hlow,c7,hS⟩
  rintro a5 b7 w a he_ ⟨ν51,cL,cR,aQ,hlow,rfl,a4,hS⟩ hF
  replace h:=Ff h he_
  replace hext:=hext.t aQ
  replace hA3:=hA3.mono aQ.1
  replace a0:=a0.mono aQ.1
  replace a2:=a2.mono aQ.1
  refine rn 1 5 [(0,pb cb0),(2,pb b4),(3,pb a1),(16,.agg #[iv a3.1.Lo,iv a3.1.Hi]),(18,.agg #[iv a5.1.Lo,iv a5.1.Hi]),(19,pb cb0)] hF fun a hF=>?_
  obtain ⟨d9,cF,h⟩:=A0 h
  refine D6 (fun b8=>[(0,pb cb0),(2,pb b4),(3,pb a1),(16,.agg #[iv a3.1.Lo,iv a3.1.Hi]),(18,.agg #[iv a5.1.Lo,iv a5.1.Hi]),(20,b8)]) hF kr ⟨kr⟩ (C5 F _ _ cF ν51 w0 w _ hlow a4 hS) (fun _=>⟨kr⟩) ?_ ?_
  ·rintro cZ w he_ ⟨ν71,bK,bW,aO,hlow,c8,hS⟩
   replace h:=Fe h he_
   replace hext:=hext.t aO
   replace hA3:=hA3.mono aO.1
   replace a0:=a0.mono aO.1
   replace a2:=a2.mono aO.1
   replace a4:=a4.mono aO.1
   refine A5<|Au hF ?_
   obtain rfl:=Ai h
   replace hS:=hS.d3.d2
   exact .inr ⟨_,rfl,rfl,ν71,bK,bW,hext,hlow,c8,hS⟩
  rintro a8 b8 w a he_ ⟨ν65,cM,cS,aN,hlow,rfl,a7,hS⟩ hF
  replace h:=Ff h he_
  replace hext:=hext.t aN
  replace hA3:=hA3.mono aN.1
  replace a0:=a0.mono aN.1
  replace a2:=a2.mono aN.1
  replace a4:=a4.mono aN.1
  refine rn 1 7 [(0,pb cb0),(2,pb b4),(3,pb a1),(16,.agg #[iv a3.1.Lo,iv a3.1.Hi]),(18,.agg #[iv a5.1.Lo,iv a5.1.Hi]),(20,.agg #[iv a8.1.Lo,iv a8.1.Hi]),(21,.pointer (some ⟨a1,1,none⟩))] hF fun a hF=>?_
  refine SK.wi (qm 146 2 1 [iv a3.1.Lo,iv a3.1.Hi] hF hS rfl fun w a hF hS=>?_)
  refine qn 1 9 [(22,.pointer (some ⟨a1,8,none⟩))] hF fun a hF=>?_
  refine SK.wi (qm 146 2 8 [iv a5.1.Lo,iv a5.1.Hi] hF hS rfl fun w a hF hS=>?_)
  refine qn 1 11 [(23,.pointer (some ⟨a1,10,none⟩))] hF fun a hF=>?_
  refine SK.wi (qm 146 2 10 [iv a8.1.Lo,iv a8.1.Hi] hF hS rfl fun w a hF hS=>wfn rfl ?_)
  refine esr<|qn 1 1 [(24,pb cb0)] hF fun a hF=>?_
  obtain ⟨dA,cG,h⟩:=A0 h
  refine D6 (fun b9=>[(0,pb cb0),(2,pb b4),(3,pb a1),(25,b9)]) hF kr ⟨kr⟩ (Af F _ _ cG ν65 w0 w _ hlow a7 hS) (fun _=>⟨kr⟩) ?_ ?_
  ·rintro d0 w he_ ⟨ν85,bM,bY,aL,hlow,c9,hS⟩
   replace h:=Fe h he_
   replace hext:=hext.t aL
   replace hA3:=hA3.mono aL.1
   replace a0:=a0.mono aL.1
   replace a2:=a2.mono aL.1
   replace a4:=a4.mono aL.1
   replace a7:=a7.mono aL.1
   refine A5<|Au hF ?_
   obtain rfl:=Ai h
   replace hS:=hS.d3.d2
   exact .inr ⟨_,rfl,rfl,ν85,bM,bY,hext,hlow,c9,hS⟩
  rintro aH b9 w a he_ ⟨ν79,bL,bX,aK,hlow,rfl,a9,hS⟩ hF
  replace h:=Ff h he_
  replace hext:=hext.t aK
  replace hA3:=hA3.mono aK.1
  replace a0:=a0.mono aK.1
  replace a2:=a2.mono aK.1
  replace a4:=a4.mono aK.1
  replace a7:=a7.mono aK.1
  refine rn 1 3 [(0,pb cb0),(2,pb b4),(3,pb a1),(25,iv aH.1),(26,.pointer (some ⟨a1,7,none⟩))] hF fun a hF=>?_
  refine SK.wi (qs 3 2 7 (iv aH.1) hF hS rfl fun w a hF hS=>wfn rfl ?_)
  refine Ak<|qoB [(29,.bool (y6.1==3))] hF (oL 3 2 0 hS.i rfl rfl<|A3) fun a hF=>?_
  refine A8 hF h (fun hc h=>?_) fun hc h=>?_
  ·refine WI.region<|qn 1 1 [(30,pb cb0)] hF fun a hF=>?_
   obtain ⟨dB,cH,h⟩:=A0 h
   refine D6 (fun bA=>[(0,pb cb0),(2,pb b4),(3,pb a1),(31,bA)]) hF kr ⟨kr⟩ (C5 F _ _ cH ν79 w0 w _ hlow a9 hS) (fun _=>⟨kr⟩) ?_ ?_
   ·rintro d1 w he_ ⟨ν99,bB,bN,aI,hlow,bZ,hS⟩
    replace h:=Fe h he_
    replace hext:=hext.t aI
    replace hA3:=hA3.mono aI.1
    replace a0:=a0.mono aI.1
    replace a2:=a2.mono aI.1
    replace a4:=a4.mono aI.1
    replace a7:=a7.mono aI.1
    replace a9:=a9.mono aI.1
    refine A5<|Au hF ?_
    obtain rfl:=Ai h
    replace hS:=hS.d3.d2
    exact .inr ⟨_,rfl,rfl,ν99,bB,bN,hext,hlow,bZ,hS⟩
   rintro a6 bA w a he_ ⟨ν93,cN,cT,aJ,hlow,rfl,aC,hS⟩ hF
   replace h:=Ff h he_
   replace hext:=hext.t aJ
   replace hA3:=hA3.mono aJ.1
   replace a0:=a0.mono aJ.1
   replace a2:=a2.mono aJ.1
   replace a4:=a4.mono aJ.1
   replace a7:=a7.mono aJ.1
   replace a9:=a9.mono aJ.1
   refine rn 1 3 [(0,pb cb0),(2,pb b4),(3,pb a1),(31,.agg #[iv a6.1.Lo,iv a6.1.Hi]),(32,pb cb0)] hF fun a hF=>?_
   obtain ⟨d4,cA,h⟩:=A0 h
   refine D6 (fun b2=>[(0,pb cb0),(2,pb b4),(3,pb a1),(31,.agg #[iv a6.1.Lo,iv a6.1.Hi]),(33,b2)]) hF kr ⟨kr⟩ (C5 F _ _ cA ν93 w0 w _ hlow aC hS) (fun _=>⟨kr⟩) ?_ ?_
   ·rintro cU w he_ ⟨ν113,bC,bO,aG,hlow,c0,hS⟩
    replace h:=Fe h he_
    replace hext:=hext.t aG
    replace hA3:=hA3.mono aG.1
    replace a0:=a0.mono aG.1
    replace a2:=a2.mono aG.1
    replace a4:=a4.mono aG.1
    replace a7:=a7.mono aG.1
    replace a9:=a9.mono aG.1
    replace aC:=aC.mono aG.1
    refine A5<|Au hF ?_
    obtain rfl:=Ai h
    replace hS:=hS.d3.d2
    exact .inr ⟨_,rfl,rfl,ν113,bC,bO,hext,hlow,c0,hS⟩
   rintro aA b2 w a he_ ⟨ν107,cJ,cO,aF,hlow,rfl,aM,hS⟩ hF
   replace h:=Ff h he_
   replace hext:=hext.t aF
   replace hA3:=hA3.mono aF.1
   replace a0:=a0.mono aF.1
   replace a2:=a2.mono aF.1
   replace a4:=a4.mono aF.1
   replace a7:=a7.mono aF.1
   replace a9:=a9.mono aF.1
   replace aC:=aC.mono aF.1
   refine rn 1 5 [(2,pb b4),(3,pb a1),(31,.agg #[iv a6.1.Lo,iv a6.1.Hi]),(33,.agg #[iv aA.1.Lo,iv aA.1.Hi]),(34,pb cb0)] hF fun a hF=>?_
   obtain ⟨d5,cB,h⟩:=A0 h
   refine D6 (fun b3=>[(2,pb b4),(3,pb a1),(31,.agg #[iv a6.1.Lo,iv a6.1.Hi]),(33,.agg #[iv aA.1.Lo,iv aA.1.Hi]),(35,b3)]) hF kr ⟨kr⟩ (C5 F _ _ cB ν107 w0 w _ hlow aM hS) (fun _=>⟨kr⟩) ?_ ?_
   ·rintro cV w he_ ⟨ν127,bE,bQ,aE,hlow,c2,hS⟩
    replace h:=Fe h he_
    replace hext:=hext.t aE
    replace hA3:=hA3.mono aE.1
    replace a0:=a0.mono aE.1
    replace a2:=a2.mono aE.1
    replace a4:=a4.mono aE.1
    replace a7:=a7.mono aE.1
    replace a9:=a9.mono aE.1
    replace aC:=aC.mono aE.1
    replace aM:=aM.mono aE.1
    refine A5<|Au hF ?_
    obtain rfl:=Ai h
    replace hS:=hS.d3.d2
    exact .inr ⟨_,rfl,rfl,ν127,bE,bQ,hext,hlow,c2,hS⟩
   rintro aB b3 w a he_ ⟨ν121,bD,bP,aD,hlow,rfl,c1,hS⟩ hF
   replace h:=Ff h he_
   replace hext:=hext.t aD
   replace hA3:=hA3.mono aD.1
   replace a0:=a0.mono aD.1
   replace a2:=a2.mono aD.1
   replace a4:=a4.mono aD.1
   replace a7:=a7.mono aD.1
   replace a9:=a9.mono aD.1
   replace aC:=aC.mono aD.1
   replace aM:=aM.mono aD.1
   refine ro 2 8 [(2,pb b4),(3,pb a1),(31,.agg #[iv a6.1.Lo,iv a6.1.Hi]),(33,.agg #[iv aA.1.Lo,iv aA.1.Hi]),(35,.agg #[iv aB.1.Lo,iv aB.1.Hi]),(37,.pointer (some ⟨a1,3,none⟩))] hF (oX (.run [] (Instr.indexAt 147 (.pointer (some ⟨a1,3,none⟩)) (iv 0)) (.pointer (some ⟨a1,3,none⟩))) (Bb kr)<|A3) fun a hF=>?_
   refine SK.wi (qm 146 2 3 [iv a6.1.Lo,iv a6.1.Hi] hF hS rfl fun w a hF hS=>?_)
   refine qo 2 11 [(39,.pointer (some ⟨a1,5,none⟩))] hF (oX (.run [] (Instr.indexAt 147 (.pointer (some ⟨a1,3,none⟩)) (iv 1)) (.pointer (some ⟨a1,5,none⟩))) (Bb kr)<|A3) fun a hF=>?_
   refine SK.wi (qm 146 2 5 [iv aA.1.Lo,iv aA.1.Hi] hF hS rfl fun w a hF hS=>?_)
   refine qn 1 13 [(40,.pointer (some ⟨a1,12,none⟩))] hF fun a hF=>?_
   refine SK.wi (qm 146 2 12 [iv aB.1.Lo,iv aB.1.Hi] hF hS rfl fun w a hF hS=>wfn rfl ?_)
   refine esr<|qo 1 1 [(41,.agg #[iv y6.1,iv a3.1.Lo,iv a3.1.Hi,iv a6.1.Lo,iv a6.1.Hi,iv aA.1.Lo,iv aA.1.Hi,iv aH.1,iv a5.1.Lo,iv a5.1.Hi,iv a8.1.Lo,iv a8.1.Hi,iv aB.1.Lo,iv aB.1.Hi])] hF (oN 149 2 0 14 hS.i rfl<|A3) fun a hF=>?_
   refine SK.wi (qw 149 3 #[iv y6.1,iv a3.1.Lo,iv a3.1.Hi,iv a6.1.Lo,iv a6.1.Hi,iv aA.1.Lo,iv aA.1.Hi,iv aH.1,iv a5.1.Lo,iv a5.1.Hi,iv a8.1.Lo,iv a8.1.Hi,iv aB.1.Lo,iv aB.1.Hi] hF hS rfl fun w a hF hS=>wfn rfl ?_)
   refine wpIn_ret (A9 [.cell 2 149] [_] hF rfl ⟨⟨_,rfl,M7 (cs:=[iv y6.1,iv a3.1.Lo,iv a3.1.Hi,iv a6.1.Lo,iv a6.1.Hi,iv aA.1.Lo,iv aA.1.Hi,iv aH.1,iv a5.1.Lo,iv a5.1.Hi,iv a8.1.Lo,iv a8.1.Hi,iv aB.1.Lo,iv aB.1.Hi]) kr ((hS.blk (i:=3) rfl).cells rfl)⟩,trivial⟩ ?_)
   obtain rfl:=Ai h
   replace hS:=hS.d3.d2
   exact .inl ⟨_,_,rfl,rfl,ν121,bD,bP,hext,hlow,rfl,c1,hS⟩
  ·refine wK<|esr<|qo 1 1 [(41,.agg #[iv y6.1,iv a3.1.Lo,iv a3.1.Hi,iv 0,iv 0,iv 0,iv 0,iv aH.1,iv a5.1.Lo,iv a5.1.Hi,iv a8.1.Lo,iv a8.1.Hi,iv 0,iv 0])] hF (oN 149 2 0 14 hS.i rfl<|A3) fun a hF=>?_
   refine SK.wi (qw 149 3 #[iv y6.1,iv a3.1.Lo,iv a3.1.Hi,iv 0,iv 0,iv 0,iv 0,iv aH.1,iv a5.1.Lo,iv a5.1.Hi,iv a8.1.Lo,iv a8.1.Hi,iv 0,iv 0] hF hS rfl fun w a hF hS=>wfn rfl ?_)
   refine wpIn_ret (A9 [.cell 2 149] [_] hF rfl ⟨⟨_,rfl,M7 (cs:=[iv y6.1,iv a3.1.Lo,iv a3.1.Hi,iv 0,iv 0,iv 0,iv 0,iv aH.1,iv a5.1.Lo,iv a5.1.Hi,iv a8.1.Lo,iv a8.1.Hi,iv 0,iv 0]) kr ((hS.blk (i:=3) rfl).cells rfl)⟩,trivial⟩ ?_)
   obtain rfl:=Ai h
   replace hS:=hS.d3.d2
   exact .inl ⟨_,_,rfl,rfl,ν79,bL,bX,hext,hlow,rfl,a9,hS⟩
theorem U0 (F:Nat) (p0:api_Field) (p1:Int) (res:Int) (h:Lv F p0 p1=some res) (μ:Frz) (w0:World) (hm:FrzAt μ w0) {ad1:Option Addr} {cap2:Nat} (hA3:ArrM μ 2 api_Span.cells ad1 cap2 p0.Vals):Calls Tryz.prog 183 #[.agg (p0.ax ad1 cap2),iv p1] w0 (fun e w=>e=.returned (iv res)∧Ext w0 w):=by
 obtain ⟨hlow,hS⟩:=hm.init
 have hext:=Frz.ext_refl w0.heap.size μ
 rw [Lv] at h
 refine feW Tryz.func183 49 [(0,.agg (p0.ax ad1 cap2)),(1,iv p1)] hS fun a w hF hS=>?_
 refine esr<|SK.wi (qBa 46 (p0.ax ad1 cap2) (fun b4=>[(2,pb b4)]) hF hS fun b4 w a hF hS=>?_)
 refine qn 1 2 [] hF fun a hF=>wfn rfl ?_
 refine Ak<|esr<|qx 4 4 [(5,iv (Bj p0.Grid))] hF (oN 43 0 0 5 hS.e rfl<|oC (fun w2 hd=>Mo p0.Grid _ rfl _ w2 (A1 w2))<|A3) fun a w hF hx=>?_
 replace hS:=hS.later hx
 refine wfn rfl ?_
 refine qnB [(12,.bool ((Bj p0.Grid) != 0))] hF fun a hF=>?_
 refine A8 hF h (fun hc h=>?_) fun hc h=>?_
 ·refine rnB [(4,iv (Bj p0.Grid))] hF fun a hF=>?_
  refine wpIn_ret (A2<|A9 [.tmp 4] [_] hF rfl ⟨rfl,trivial⟩ ?_)
  obtain rfl:=Ai h
  exact ⟨rfl,hS.ext⟩
 ·refine wK<|Ak<|esr ?_
  obtain ⟨x5,hx5,h⟩:=A0 h
  refine qo 11 11 [(24,.bool ((ln p0.Vals) != x5))] hF (oL 44 0 5 hS.i rfl rfl<|oL 3 0 3 hS.i rfl rfl<|oL 3 0 4 hS.i rfl rfl<|oM 3 hx5<|A3) fun a hF=>wfn rfl ?_
  refine A8 hF h (fun hc h=>?_) fun hc h=>?_
  ·refine rnB [(4,iv 11)] hF fun a hF=>?_
   refine wpIn_ret (A2<|A9 [.tmp 4] [_] hF rfl ⟨rfl,trivial⟩ ?_)
   obtain rfl:=Ai h
   exact ⟨rfl,hS.ext⟩
  ·refine wK<|D4 (fun a w=>Fr 49 [] [] a∧St w0 [blk b4 46 (p0.ax ad1 cap2),fz w0 μ] w∧Ku=some res) ?_ ?_
   ·skip
    refine qoB [(26,sv ad1 p0.Vals cap2),(27,iv (ln p0.Vals)),(28,iv 0)] hF (oL 44 0 5 hS.i rfl rfl<|A3) fun a hF=>?_
    refine wpIn_block<|Cc (fun n_ a w=>∃(a1:Int),Fr 49 [] [(1,iv p1),(26,sv ad1 p0.Vals cap2),(27,iv (ln p0.Vals)),(28,iv a1)] a∧St w0 [blk b4 46 (p0.ax ad1 cap2),fz w0 μ] w∧Eu p0 p1 n_ a1=some res) F ⟨0,hF.sub kr,St.pick [0,1] (by decide) hS,h⟩ ?_
    rintro nk2 a w ⟨a1,hF,hS,h⟩
    rcases nk2 with _|nk2
    ·cases (show (none:Option Int)=some res from h)
    obtain ⟨k2,hk2⟩:∃k,k=Eu p0 p1 nk2:=⟨_,rfl⟩
    replace h:Hu p0 p1 k2 a1=some res:=by rw [hk2];exact h
    rw [Hu] at h
    refine qnB [(29,.bool (decide (a1<(ln p0.Vals))))] hF fun a hF=>?_
    refine Ak<|A8 hF h (fun hc h=>?_) fun hc h=>?_
    ·refine wK<|Ak<|wpIn_block<|esr ?_
     obtain ⟨a0,a3,h⟩:=A0 h
     refine qo 2 2 [(31,.agg #[iv a0.Lo,iv a0.Hi])] hF (oI 44 (hA3 _ (hS.frz (i:=1) rfl hlow)) a3<|oG 146 0 2 api_Span.cells_len (fun _ hd=>(hA3 _ ((hS.at_ hd).frz (i:=1) rfl hlow))) a3<|A3) fun a hF=>?_
     refine SK.wi (qA 146 #[iv 0,iv 0] (fun a2=>[(7,pb a2)]) hF hS fun a2 w a hF hS=>?_)
     refine SK.wi (qw 146 0 #[iv a0.Lo,iv a0.Hi] hF hS rfl fun w a hF hS=>wfn rfl ?_)
     refine qoB [(47,.bool (bif (bif (decide (a0.Lo<0)) then true else (decide (a0.Hi<a0.Lo))) then true else (decide (a0.Hi>p1))))] hF (oL 3 0 0 hS.i rfl rfl<|oGs [⟨35,false,(decide (a0.Lo<0))⟩] (oL 3 0 1 hS.i rfl rfl<|oL 3 0 0 hS.i rfl rfl<|A3)<|oGs [⟨42,false,(bif (decide (a0.Lo<0)) then true else (decide (a0.Hi<a0.Lo)))⟩] (oL 3 0 1 hS.i rfl rfl<|A3)<|A3) fun a hF=>?_
     refine A8 hF h (fun hc h=>?_) fun hc h=>?_
     ·refine rnB [(4,iv 3)] hF fun a hF=>?_
      refine wpIn_ret (Ab<|A2<|A2<|Ab<|A2<|A9 [.tmp 4] [_] hF rfl ⟨rfl,trivial⟩ ?_)
      obtain rfl:=Ai h
      exact ⟨rfl,hS.ext⟩
     ·refine wpIn_skip (A7<|A4<|?_)
      refine WI.region ?_
      obtain ⟨a4,a5,h⟩:=A0 h
      refine ro 2 2 [(1,iv p1),(26,sv ad1 p0.Vals cap2),(27,iv (ln p0.Vals)),(28,iv a4)] hF (oA 3 a5<|A3) fun a hF=>wfn rfl ?_
      rw [hk2] at h
      exact ⟨nk2,Nat.lt_succ_self _,a4,hF.sub kr,St.pick [1,2] (by decide) hS,h⟩
    ·refine wpIn_exit (A6<|A6<|Aq<|A4 ?_)
     exact ⟨hF.sub kr,St.pick [0,1] (by decide) hS,h⟩
   rintro a w ⟨hF,hS,h⟩
   rw [Ku] at h
   refine rnB [(4,iv 0)] hF fun a hF=>?_
   refine wpIn_ret (A9 [.tmp 4] [_] hF rfl ⟨rfl,trivial⟩ ?_)
   obtain rfl:=Ai h
   exact ⟨rfl,hS.ext⟩
theorem Pv (F:Nat) (p0:volume_note) (p1:volume_writer) (res:volume_writer) (h:Fk F p0 p1=some res) (μ:Frz) (w0 w1:World) (T_:List Res) (hlow:B2 w0 μ) {cb1:Nat} {ad1:Option Addr} {cap2:Nat} (hS:St w0 (fz w0 μ::blk cb1 138 #[sv ad1 p1.b cap2]::arrT 5 1 (fK .u8) ad1 p1.b.length cap2 p1.b::T_) w1):Bd Tryz.prog 188 #[.agg #[iv p0.time,.string p0.text],pb cb1] w1 (fun e w=>∃(ν_:Frz) (a0:Option Addr) (a1:Nat),μ.ext w0.heap.size ν_∧B2 w0 ν_∧e=(.tuple #[])∧St w0 (fz w0 ν_::blk cb1 138 #[sv a0 res.b a1]::arrT 5 1 (fK .u8) a0 res.b.length a1 res.b::T_) w):=by
 rw [Fk] at h
 have hext:=Frz.ext_refl w0.heap.size μ
 refine feW Tryz.func188 13 [(0,.agg #[iv p0.time,.string p0.text]),(1,pb cb1)] hS fun a w hF hS=>?_
 refine esr<|SK.wi (qBa 160 #[iv p0.time,.string p0.text] (fun b3=>[(2,pb b3)]) hF hS fun b3 w a hF hS=>wfn rfl ?_)
 refine esr<|qo 3 3 [(4,pb cb1),(6,iv p0.time)] hF (oL 3 0 0 hS.i rfl rfl<|A3) fun a hF=>?_
 refine SK.wi (qL 3 69 2 [3,p0.time] (fun b4=>[(7,sb b4 2)]) Fl hF hS fun b4 w a hF hS=>?_)
 obtain ⟨ν5,hx6,hlow,hS,hz7⟩:=hS.freeze (i:=2) (j:=0) rfl rfl (by decide) hlow
 replace hext:=hext.t hx6
 have hA8:=ArrM.of_arr hz7
 obtain ⟨y9,hy9,h⟩:=A0 h
 replace hS:=hS.s3.s3.s3
 refine SK.wi (qR (fun a7=>[]) hF (Al F _ _ _ hy9 ν5 w0 w _ hlow hA8 hS) ?_)
 rintro a7 w a ⟨ν10,a9,aA,a2,hlow,rfl,hS⟩ hF
 replace hext:=hext.t a2
 replace hA8:=hA8.mono a2.1
 refine wfn rfl ?_
 refine WI.region<|ro 3 3 [(9,pb cb1),(11,.string p0.text)] hF (oL 9 3 1 hS.i rfl rfl<|A3) fun a hF=>?_
 obtain ⟨aB,a6,h⟩:=A0 h
 refine SK.wi (rR (fun a8=>[]) hF (Gf F _ _ _ a6 ν10 w0 w _ hlow  hS) ?_)
 rintro a8 w a ⟨ν16,a4,a5,a3,hlow,rfl,hS⟩ hF
 replace hext:=hext.t a3
 replace hA8:=hA8.mono a3.1
 refine WI.fin rfl ?_
 refine H4 hF rfl ?_
 obtain rfl:=Ai h
 replace hS:=hS.d3
 exact ⟨_,rfl,ν16,a4,a5,hext,hlow,rfl,hS⟩
theorem Qb (F:Nat) (p0:api_Sweep) (res:Int) (h:D8 F p0=some res) (μ:Frz) (w0:World) (hm:FrzAt μ w0) {ad1:Option Addr} {cap2:Nat} {css3:List (List Value)} (hA4:ArrQ μ 1 Rp87 ad1 cap2 css3 p0.Rays):Calls Tryz.prog 47 #[.agg (p0.ax ad1 cap2)] w0 (fun e w=>e=.returned (iv res)∧Ext w0 w):=by
 obtain ⟨hlow,hS⟩:=hm.init
 have hext:=Frz.ext_refl w0.heap.size μ
 rw [D8] at h
 refine feW Tryz.func47 78 [(0,.agg (p0.ax ad1 cap2))] hS fun a w hF hS=>?_
 refine esr<|SK.wi (qBa 41 (p0.ax ad1 cap2) (fun b5=>[(1,pb b5)]) hF hS fun b5 w a hF hS=>?_)
 refine qn 1 2 [] hF fun a hF=>wfn rfl ?_
 refine esr ?_
 obtain ⟨y6,hy6,h⟩:=A0 h
 refine qx 4 4 [(3,iv y6)] hF (oN 38 0 0 8 hS.e rfl<|oC (fun w2 hd=>Qw F p0.Site _ hy6 _ w2 (A1 w2))<|A3) fun a w hF hx=>?_
 replace hS:=hS.later hx
 refine wfn rfl ?_
 refine Ak<|qnB [(12,.bool (y6 != 0))] hF fun a hF=>?_
 refine A8 hF h (fun hc h=>?_) fun hc h=>?_
 ·refine rnB [(2,iv y6)] hF fun a hF=>?_
  refine wpIn_ret (A2<|A9 [.tmp 2] [_] hF rfl ⟨rfl,trivial⟩ ?_)
  obtain rfl:=Ai h
  exact ⟨rfl,hS.ext⟩
 ·refine wK<|Ak<|esr<|qx 10 10 [(23,.bool (bif (!(Ad p0.Tilt 0 256)) then true else (!(Ad p0.Time 0 4294967296))))] hF (oL 3 0 8 hS.e rfl rfl<|oC (fun w2 hd=>Bv p0.Tilt 0 256 _ rfl _ w2 (A1 w2))<|oGs [⟨18,false,(!(Ad p0.Tilt 0 256))⟩] (oL 3 0 9 hS.e rfl rfl<|oC (fun w2 hd=>Bv p0.Time 0 4294967296 _ rfl _ w2 (A1 w2))<|A3)<|A3) fun a w hF hx=>?_
  replace hS:=hS.later hx
  refine wfn rfl ?_
  refine A8 hF h (fun hc h=>?_) fun hc h=>?_
  ·refine rnB [(2,iv 3)] hF fun a hF=>?_
   refine wpIn_ret (A2<|A9 [.tmp 2] [_] hF rfl ⟨rfl,trivial⟩ ?_)
   obtain rfl:=Ai h
   exact ⟨rfl,hS.ext⟩
  ·refine wK<|Ak<|esr ?_
   obtain ⟨x7,hx7,h⟩:=A0 h
   refine qo 8 8 [(31,.bool ((ln p0.Rays) != x7))] hF (oL 39 0 10 hS.i rfl rfl<|oL 3 0 4 hS.i rfl rfl<|oM 3 hx7<|A3) fun a hF=>wfn rfl ?_
   refine A8 hF h (fun hc h=>?_) fun hc h=>?_
   ·refine rnB [(2,iv 11)] hF fun a hF=>?_
    refine wpIn_ret (A2<|A9 [.tmp 2] [_] hF rfl ⟨rfl,trivial⟩ ?_)
    obtain rfl:=Ai h
    exact ⟨rfl,hS.ext⟩
   ·refine wK<|D4 (fun a w=>Fr 78 [] [(1,pb b5)] a∧St w0 [blk b5 41 (p0.ax ad1 cap2),fz w0 μ] w∧Fz F p0=some res) ?_ ?_
    ·skip
     refine qnB [(4,iv 0)] hF fun a hF=>?_
     refine wpIn_block<|Cc (fun n_ a w=>∃(a3:Int),Fr 78 [] [(1,pb b5),(4,iv a3)] a∧St w0 [blk b5 41 (p0.ax ad1 cap2),fz w0 μ] w∧Dt F p0 n_ a3=some res) F ⟨0,hF.sub kr,St.pick [0,1] (by decide) hS,h⟩ ?_
     rintro nk6 a w ⟨a3,hF,hS,h⟩
     rcases nk6 with _|nk6
     ·cases (show (none:Option Int)=some res from h)
     obtain ⟨k6,hk6⟩:∃k,k=Dt F p0 nk6:=⟨_,rfl⟩
     replace h:Fy F p0 k6 a3=some res:=by rw [hk6];exact h
     rw [Fy] at h
     refine Ak<|qoB [(36,.bool (decide (a3<(ln p0.Rays))))] hF (oL 39 0 10 hS.i rfl rfl<|A3) fun a hF=>?_
     refine A8 hF h (fun hc h=>?_) fun hc h=>?_
     ·refine wK<|Ak<|wpIn_block<|Ak ?_
      obtain ⟨aO,aI,h⟩:=A0 h
      obtain ⟨aX,a8,aF⟩:=B8 hA4.2 aI
      obtain ⟨aR,aU,rfl,aZ⟩:=aF
      refine qD 10 [(48,.bool ((ln aO) != p0.Site.Gates))] hF (oL 39 0 10 hS.e rfl rfl<|oI 39 (hA4.at (hS.frz (i:=1) rfl hlow)) a8<|oE 87 0 (Bt 1) (fun _ hd=>(hA4.at ((hS.later hd).frz (i:=1) rfl hlow))) a8 rfl<|oL 3 0 5 hS.e rfl rfl<|A3) fun a w hF hx=>?_
      replace hS:=hS.later hx
      refine wfn rfl ?_
      refine A8 hF h (fun hc h=>?_) fun hc h=>?_
      ·refine rnB [(2,iv 11)] hF fun a hF=>?_
       refine wpIn_ret (Ab<|A2<|A2<|Ab<|A2<|A9 [.tmp 2] [_] hF rfl ⟨rfl,trivial⟩ ?_)
       obtain rfl:=Ai h
       exact ⟨rfl,hS.ext⟩
      ·refine wpIn_skip (A7<|A4<|?_)
       refine WI.region ?_
       obtain ⟨aC,aL,h⟩:=A0 h
       refine ro 3 3 [(1,pb b5),(4,iv aC)] hF (oA 3 aL<|A3) fun a hF=>wfn rfl ?_
       rw [hk6] at h
       exact ⟨nk6,Nat.lt_succ_self _,aC,hF.sub kr,St.pick [0,1] (by decide) hS,h⟩
     ·refine wpIn_exit (A6<|A6<|Aq<|A4 ?_)
      exact ⟨hF.sub kr,St.pick [0,1] (by decide) hS,h⟩
    rintro a w ⟨hF,hS,h⟩
    rw [Fz] at h
    refine D4 (fun a w=>Fr 78 [] [] a∧St w0 [blk b5 41 (p0.ax ad1 cap2),fz w0 μ] w∧Ht=some res) ?_ ?_
    ·skip
     refine qnB [(5,iv 0)] hF fun a hF=>?_
     refine wpIn_block<|Cc (fun n_ a w=>∃(a0:Int),Fr 78 [] [(1,pb b5),(5,iv a0)] a∧St w0 [blk b5 41 (p0.ax ad1 cap2),fz w0 μ] w∧Dq F p0 n_ a0=some res) F ⟨0,hF.sub kr,St.pick [0,1] (by decide) hS,h⟩ ?_
     rintro nk3 a w ⟨a0,hF,hS,h⟩
     rcases nk3 with _|nk3
     ·cases (show (none:Option Int)=some res from h)
     obtain ⟨k3,hk3⟩:∃k,k=Dq F p0 nk3:=⟨_,rfl⟩
     replace h:Fw F p0 k3 a0=some res:=by rw [hk3];exact h
     rw [Fw] at h
     refine Ak<|qoB [(53,.bool (decide (a0<(ln p0.Rays))))] hF (oL 39 0 10 hS.i rfl rfl<|A3) fun a hF=>?_
     refine A8 hF h (fun hc h=>?_) fun hc h=>?_
     ·refine wK<|D4 (fun a w=>Fr 78 [] [(1,pb b5),(5,iv a0)] a∧St w0 [blk b5 41 (p0.ax ad1 cap2),fz w0 μ] w∧G0 a0 k3=some res) ?_ ?_
      ·skip
       refine wpIn_block<|qnB [(6,iv 0)] hF fun a hF=>?_
       refine wpIn_block<|Cc (fun n_ a w=>∃(a2:Int),Fr 78 [] [(1,pb b5),(5,iv a0),(6,iv a2)] a∧St w0 [blk b5 41 (p0.ax ad1 cap2),fz w0 μ] w∧Dr F p0 a0 k3 n_ a2=some res) F ⟨0,hF.sub kr,St.pick [0,1] (by decide) hS,h⟩ ?_
       rintro nk5 a w ⟨a2,hF,hS,h⟩
       rcases nk5 with _|nk5
       ·cases (show (none:Option Int)=some res from h)
       obtain ⟨k5,hk5⟩:∃k,k=Dr F p0 a0 k3 nk5:=⟨_,rfl⟩
       replace h:Fx F p0 a0 k3 k5 a2=some res:=by rw [hk5];exact h
       rw [Fx] at h
       refine Ak<|esr ?_
       obtain ⟨aN,aG,h⟩:=A0 h
       obtain ⟨aV,a6,aD⟩:=B8 hA4.2 aG
       obtain ⟨aP,aS,rfl,aY⟩:=aD
       refine qo 8 8 [(63,.bool (decide (a2<(ln aN))))] hF (oL 39 0 10 hS.i rfl rfl<|oI 39 (hA4.at (hS.frz (i:=1) rfl hlow)) a6<|oE 87 0 (Bt 1) (fun _ hd=>(hA4.at ((hS.at_ hd).frz (i:=1) rfl hlow))) a6 rfl<|A3) fun a hF=>wfn rfl ?_
       refine A8 hF h (fun hc h=>?_) fun hc h=>?_
       ·refine wK<|Ak<|wpIn_block<|esr ?_
        obtain ⟨b0,aH,h⟩:=A0 h
        obtain ⟨aW,a7,aE⟩:=B8 hA4.2 aH
        obtain ⟨aQ,aT,rfl,a5⟩:=aE
        obtain ⟨a1,a9,h⟩:=A0 h
        obtain ⟨a4,aM,h⟩:=A0 h
        refine qx 10 10 [(7,iv a4)] hF (oL 39 0 10 hS.e rfl rfl<|oI 39 (hA4.at (hS.frz (i:=1) rfl hlow)) a7<|oE 87 0 (Bt 1) (fun _ hd=>(hA4.at ((hS.later hd).frz (i:=1) rfl hlow))) a7 rfl<|oI 87 (a5 _ (hS.frz (i:=1) rfl hlow)) a9<|oG 149 0 14 api_Echo.cells_len (fun _ hd=>(a5 _ ((hS.later hd).frz (i:=1) rfl hlow))) a9<|oC (fun w2 hd=>Qx F (api_Echo.mk a1.Kind a1.Power ((api_Span.mk a1.Steps.1.Lo a1.Steps.1.Hi),(api_Span.mk a1.Steps.2.Lo a1.Steps.2.Hi)) a1.Spread a1.Ratio a1.Match a1.Turn) _ aM _ w2 (A1 w2))<|A3) fun a w hF hx=>?_
        replace hS:=hS.later hx
        refine wfn rfl ?_
        refine qnB [(76,.bool (a4 != 0))] hF fun a hF=>?_
        refine A8 hF h (fun hc h=>?_) fun hc h=>?_
        ·refine rnB [(2,iv a4)] hF fun a hF=>?_
         refine wpIn_ret (Ab<|A2<|A2<|Ab<|Ab<|A2<|A2<|Ab<|A2<|A9 [.tmp 2] [_] hF rfl ⟨rfl,trivial⟩ ?_)
         obtain rfl:=Ai h
         exact ⟨rfl,hS.ext⟩
        ·refine wpIn_skip (A7<|A4<|?_)
         refine WI.region ?_
         obtain ⟨aB,aK,h⟩:=A0 h
         refine ro 3 3 [(1,pb b5),(5,iv a0),(6,iv aB)] hF (oA 3 aK<|A3) fun a hF=>wfn rfl ?_
         rw [hk5] at h
         exact ⟨nk5,Nat.lt_succ_self _,aB,hF.sub kr,St.pick [0,1] (by decide) hS,h⟩
       ·refine wpIn_exit (A6<|A6<|Aq<|A7<|A4<|?_)
        exact ⟨hF.sub kr,St.pick [0,1] (by decide) hS,h⟩
      rintro a w ⟨hF,hS,h⟩
      rw [G0] at h
      refine WI.region ?_
      obtain ⟨aA,aJ,h⟩:=A0 h
      refine ro 3 3 [(1,pb b5),(5,iv aA)] hF (oA 3 aJ<|A3) fun a hF=>wfn rfl ?_
      rw [hk3] at h
      exact ⟨nk3,Nat.lt_succ_self _,aA,hF.sub kr,St.pick [0,1] (by decide) hS,h⟩
     ·refine wpIn_exit (A6<|A6<|Aq<|A4 ?_)
      exact ⟨hF.sub kr,St.pick [0,1] (by decide) hS,h⟩
    rintro a w ⟨hF,hS,h⟩
    rw [Ht] at h
    refine rnB [(2,iv 0)] hF fun a hF=>?_
    refine wpIn_ret (A9 [.tmp 2] [_] hF rfl ⟨rfl,trivial⟩ ?_)
    obtain rfl:=Ai h
    exact ⟨rfl,hS.ext⟩
theorem Qa (F:Nat) (p0:api_Field) (res:Int) (h:Dy F p0=some res) (μ:Frz) (w0:World) (hm:FrzAt μ w0) {ad1:Option Addr} {cap2:Nat} (hA3:ArrM μ 2 api_Span.cells ad1 cap2 p0.Vals):Calls Tryz.prog 49 #[.agg (p0.ax ad1 cap2)] w0 (fun e w=>e=.returned (iv res)∧Ext w0 w):=by
 obtain ⟨hlow,hS⟩:=hm.init
 have hext:=Frz.ext_refl w0.heap.size μ
 rw [Dy] at h
 refine feW Tryz.func49 5 [(0,.agg (p0.ax ad1 cap2))] hS fun a w hF hS=>?_
 refine esr<|SK.wi (qBa 46 (p0.ax ad1 cap2) (fun b4=>[(1,pb b4)]) hF hS fun b4 w a hF hS=>?_)
 refine qn 1 2 [] hF fun a hF=>wfn rfl ?_
 refine esr ?_
 obtain ⟨y5,hy5,h⟩:=A0 h
 refine rX 3 3 [(2,iv y5)] hF (oN 46 0 0 6 hS.e rfl<|oC (fun w2 hd=>U4 F p0 1073741824 _ hy5 _ w2 (A1 w2) (hA3.mono (FrzAt.le_mem ((hS.later hd).frz (i:=1) rfl hlow))))<|A3) fun a w hF hx=>?_
 replace hS:=hS.later hx
 refine wfn rfl ?_
 refine wpIn_ret (A9 [.tmp 2] [_] hF rfl ⟨rfl,trivial⟩ ?_)
 obtain rfl:=Ai h
 exact ⟨rfl,hS.ext⟩
end Go.Proofs.YtifbomimeodibaaGreat
