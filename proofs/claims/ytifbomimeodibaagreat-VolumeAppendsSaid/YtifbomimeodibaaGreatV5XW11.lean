import Derived.Test.YtifbomimeodibaaGreatV5XD
import Derived.Test.YtifbomimeodibaaGreatProg
import Derived.Test.YtifbomimeodibaaGreatV5XW1
import Derived.Test.YtifbomimeodibaaGreatV5XW2
import Derived.Test.YtifbomimeodibaaGreatV5XW5
import Derived.Test.YtifbomimeodibaaGreatV5XW6
import Derived.Test.YtifbomimeodibaaGreatV5XW8
namespace Go.Proofs.YtifbomimeodibaaGreat
open Go Go.RowKit Go.Eng
set_option maxRecDepth 10000
set_option maxHeartbeats 4000000
set_option linter.unusedVariables false
set_option linter.unusedSimpArgs false
theorem Lk (F:Nat) (p0:volume_reader) (p1:Int) (p2:api_Echo) (res:Except (Value×volume_reader) ((List api_Echo)×volume_reader)) (h:Cu F p0 p1 p2=some res) (μ:Frz) (w0 w1:World) (T_:List Res) (hlow:Ax w0 μ) {cb0:Nat} {ad1:Option Addr} {cap2:Nat} (hA3:ArrM μ 1 (fK .u8) ad1 cap2 p0.b) (hS:St w0 (fz w0 μ::blk cb0 125 #[sv ad1 p0.b cap2]::T_) w1):Py Tryz.prog 94 #[pb cb0,iv p1,p2.ag,.func (.func 95) #[pb cb0] #[]] w1 res (fun r_ e w=>∃(ν_:Frz) (c0:Option Addr) (c5:Nat) (c1:Option Addr) (c6:Nat),μ.ext w0.heap.size ν_∧Ax w0 ν_∧e=(sv c0 r_.1 c5)∧ArrM ν_ 14 api_Echo.cells c0 c5 r_.1∧(ArrM ν_ 1 (fK .u8) c1 c6 r_.2.b)∧St w0 (fz w0 ν_::blk cb0 125 #[sv c1 r_.2.b c6]::T_) w) (fun e_ w=>∃(ν_:Frz) (c2:Option Addr) (c7:Nat),μ.ext w0.heap.size ν_∧Ax w0 ν_∧(ArrM ν_ 1 (fK .u8) c2 c7 e_.b)∧St w0 (fz w0 ν_::blk cb0 125 #[sv c2 e_.b c7]::T_) w):=by
 rw [Cu] at h
 have hext:=Frz.ext_refl w0.heap.size μ
 refine feW Tryz.func94 49 [(0,pb cb0),(1,iv p1),(2,p2.ag),(3,.func (.func 95) #[pb cb0] #[])] hS fun a w hF hS=>?_
 refine esr<|SK.wi (qBa 149 p2.ar (fun b4=>[(6,pb b4)]) hF hS fun b4 w a hF hS=>?_)
 refine qn 1 2 [] hF fun a hF=>wfn rfl ?_
 refine qnB [(9,.slice none 0 0)] hF fun a hF=>?_
 have aI:=Frz.le_refl μ
 refine Dx (fun a w=>∃(bM:Int) (bN:Int) (bO:Int) (bP:Int) (bQ:Int) (bR:Int) (bS:Int) (bT:Int) (bU:Int) (bV:Int) (bW:Int) (bX:Int) (bY:Int) (bZ:Int) (bF:(List Int)) (aT:(List api_Echo)) (ν319:Frz) (b7:Option Addr) (bB:Nat) (aW:Option Addr) (b0:Nat),Fr 49 [] [(9,sv aW aT b0)] a∧St w0 (arr 149 14 api_Echo.cells aW aT.length b0 aT::blk b4 149 #[iv bM,iv bN,iv bS,iv bT,iv bU,iv bV,iv bW,iv bX,iv bY,iv bZ,iv bO,iv bP,iv bQ,iv bR]::fz w0 ν319::blk cb0 125 #[sv b7 bF bB]::T_) w∧(ArrM ν319 1 (fK .u8) b7 bB bF)∧(μ.le ν319)∧(μ.ext w0.heap.size ν319)∧(Ax w0 ν319)∧Cc bM bN bO bP bQ bR bS bT bU bV bW bX bY bZ bF aT=some res) ?_ ?_
 ·skip
  refine wpIn_block ?_
  have c9:=Frz.le_refl μ
  replace hS:=hS.nilarr 149 14 api_Echo.cells
  refine Ck (fun n_ a w=>∃(a1:Int) (a2:Int) (a3:Int) (a4:Int) (a5:Int) (a6:Int) (a7:Int) (a8:Int) (a9:Int) (aA:Int) (aB:Int) (aC:Int) (aD:Int) (aE:Int) (aU:(List Int)) (aG:(List api_Echo)) (ν548:Frz) (b8:Option Addr) (bC:Nat) (aL:Option Addr) (aN:Nat),Fr 49 [] [(0,pb cb0),(1,iv p1),(3,.func (.func 95) #[pb cb0] #[]),(6,pb b4),(9,sv aL aG aN)] a∧St w0 (arr 149 14 api_Echo.cells aL aG.length aN aG::blk b4 149 #[iv a1,iv a2,iv a7,iv a8,iv a9,iv aA,iv aB,iv aC,iv aD,iv aE,iv a3,iv a4,iv a5,iv a6]::fz w0 ν548::blk cb0 125 #[sv b8 aU bC]::T_) w∧(ArrM ν548 1 (fK .u8) b8 bC aU)∧(μ.le ν548)∧(μ.ext w0.heap.size ν548)∧(Ax w0 ν548)∧B1 F p1 n_ a1 a2 a3 a4 a5 a6 a7 a8 a9 aA aB aC aD aE aU aG=some res) F ⟨p2.Kind,p2.Power.Lo,p2.Match.Lo,p2.Match.Hi,p2.Turn.Lo,p2.Turn.Hi,p2.Power.Hi,p2.Steps.1.Lo,p2.Steps.1.Hi,p2.Steps.2.Lo,p2.Steps.2.Hi,p2.Spread,p2.Ratio.Lo,p2.Ratio.Hi,p0.b,[],μ,ad1,cap2,none,0,hF.sub kr,hS,hA3,c9,hext,hlow,h⟩ ?_
  clear c9
  rintro nk2 a w ⟨a1,a2,a3,a4,a5,a6,a7,a8,a9,aA,aB,aC,aD,aE,aU,aG,ν548,b8,bC,aL,aN,hF,hS,aK,aJ,hext,hlow,h⟩
  rcases nk2 with _|nk2
  ·cases (show (none:Option (Except (Value×volume_reader) ((List api_Echo)×volume_reader)))=some res from h)
  replace hA3:=hA3.mono aJ
  replace aI:=aI.t aJ
  obtain ⟨k2,hk2⟩:∃k,k=B1 F p1 nk2:=⟨_,rfl⟩
  replace h:Cb F p1 k2 a1 a2 a3 a4 a5 a6 a7 a8 a9 aA aB aC aD aE aU aG=some res:=by rw [hk2];exact h
  rw [Cb] at h
  refine Am<|qnB [(15,.bool (decide ((ln aG)<p1)))] hF fun a hF=>?_
  refine A8 hF h (fun hc h=>?_) fun hc h=>?_
  ·refine wK<|wpIn_block<|esr<|qn 1 1 [(16,pb cb0)] hF fun a hF=>?_
   obtain ⟨cU,cO,h⟩:=A0 h
   replace hS:=hS.s3.s3
   refine Ee (fun cA=>[(0,pb cb0),(1,iv p1),(3,.func (.func 95) #[pb cb0] #[]),(6,pb b4),(9,sv aL aG aN),(17,cA)]) hF kr ⟨kr⟩ (Ai F _ _ cO ν548 w0 w _ hlow aK hS) (fun _=>⟨kr⟩) ?_ ?_
   ·rintro cS w he_ ⟨ν581,cD,cF,b6,hlow,cI,hS⟩
    replace h:=H0 h he_
    replace hext:=hext.t b6
    replace hA3:=hA3.mono b6.1
    replace aK:=aK.mono b6.1
    replace aI:=aI.t b6.1
    replace aJ:=aJ.t b6.1
    refine A6<|Ah<|A6<|Ah<|A6<|Az hF ?_
    obtain rfl:=Ae h
    replace hS:=hS.d3.d2
    exact .inr ⟨_,rfl,rfl,ν581,cD,cF,hext,hlow,cI,hS⟩
   rintro aF cA w a he_ ⟨ν575,aX,b1,b5,hlow,rfl,aQ,hS⟩ hF
   replace h:=H3 h he_
   replace hext:=hext.t b5
   replace hA3:=hA3.mono b5.1
   replace aK:=aK.mono b5.1
   replace aI:=aI.t b5.1
   replace aJ:=aJ.t b5.1
   refine rn 1 3 [(0,pb cb0),(1,iv p1),(3,.func (.func 95) #[pb cb0] #[]),(6,pb b4),(9,sv aL aG aN),(10,iv aF.1)] hF fun a hF=>wfn rfl ?_
   refine Dx (fun a w=>Fr 49 [] [(0,pb cb0),(1,iv p1),(3,.func (.func 95) #[pb cb0] #[]),(6,pb b4),(9,sv aL aG aN),(10,iv aF.1)] a∧St w0 (fz w0 ν575::blk cb0 125 #[sv aX aF.2.b b1]::arr 149 14 api_Echo.cells aL aG.length aN aG::blk b4 149 #[iv a1,iv a2,iv a7,iv a8,iv a9,iv aA,iv aB,iv aC,iv aD,iv aE,iv a3,iv a4,iv a5,iv a6]::T_) w∧Dn F p1 a1 a2 a3 a4 a5 a6 a7 a8 a9 aA aB aC aD aE aG k2 aF=some res) ?_ ?_
   ·skip
    refine esr ?_
    obtain ⟨cR,cN,h⟩:=A0 h
    refine qo 6 6 [(23,.bool (decide (aF.1>cR)))] hF (oS 3 cN<|A1) fun a hF=>wfn rfl ?_
    refine A8 hF h (fun hc h=>?_) fun hc h=>?_
    ·refine WI.region<|qn 1 1 [(24,.iface 128 (iv 7))] hF fun a hF=>?_
     refine Qa (t:=128) (v:=iv 7) hF ⟨kr⟩ (A6<|Ah<|A6<|Ah<|A6<|Az hF ?_)
     obtain rfl:=Ae h
     replace hS:=hS.d3.d2
     exact .inr ⟨_,rfl,rfl,ν575,aX,b1,hext,hlow,aQ,hS⟩
    ·refine wK ?_
     exact ⟨hF.sub kr,hS,h⟩
   rintro a w ⟨hF,hS,h⟩
   rw [Dn] at h
   refine Dx (fun a w=>∃(aH:(List api_Echo)) (aM:Option Addr) (aO:Nat),Fr 49 [] [(0,pb cb0),(1,iv p1),(3,.func (.func 95) #[pb cb0] #[]),(6,pb b4),(9,sv aM aH aO)] a∧St w0 (arr 149 14 api_Echo.cells aM aH.length aO aH::fz w0 ν575::blk cb0 125 #[sv aX aF.2.b b1]::blk b4 149 #[iv a1,iv a2,iv a7,iv a8,iv a9,iv aA,iv aB,iv aC,iv aD,iv aE,iv a3,iv a4,iv a5,iv a6]::T_) w∧Ce F p1 a1 a2 a3 a4 a5 a6 a7 a8 a9 aA aB aC aD aE k2 aF aH=some res) ?_ ?_
   ·skip
    refine qnB [(25,iv aF.1),(26,iv 0)] hF fun a hF=>?_
    refine wpIn_block<|Ck (fun n_ a w=>∃(aV:Int) (aP:(List api_Echo)) (aY:Option Addr) (b2:Nat),Fr 49 [] [(0,pb cb0),(1,iv p1),(3,.func (.func 95) #[pb cb0] #[]),(6,pb b4),(9,sv aY aP b2),(25,iv aF.1),(26,iv aV)] a∧St w0 (arr 149 14 api_Echo.cells aY aP.length b2 aP::fz w0 ν575::blk cb0 125 #[sv aX aF.2.b b1]::blk b4 149 #[iv a1,iv a2,iv a7,iv a8,iv a9,iv aA,iv aB,iv aC,iv aD,iv aE,iv a3,iv a4,iv a5,iv a6]::T_) w∧Bc F p1 a1 a2 a3 a4 a5 a6 a7 a8 a9 aA aB aC aD aE k2 aF n_ aV aP=some res) F ⟨0,aG,aL,aN,hF.sub kr,hS.s2,h⟩ ?_
    rintro nk6 a w ⟨aV,aP,aY,b2,hF,hS,h⟩
    rcases nk6 with _|nk6
    ·cases (show (none:Option (Except (Value×volume_reader) ((List api_Echo)×volume_reader)))=some res from h)
    obtain ⟨k6,hk6⟩:∃k,k=Bc F p1 a1 a2 a3 a4 a5 a6 a7 a8 a9 aA aB aC aD aE k2 aF nk6:=⟨_,rfl⟩
    replace h:Dm F p1 a1 a2 a3 a4 a5 a6 a7 a8 a9 aA aB aC aD aE k2 aF k6 aV aP=some res:=by rw [hk6];exact h
    rw [Dm] at h
    refine qnB [(27,.bool (decide (aV<aF.1)))] hF fun a hF=>?_
    refine Am<|A8 hF h (fun hc h=>?_) fun hc h=>?_
    ·refine wK<|Am<|wpIn_block<|WI.region<|qo 2 2 [(28,sv aY aP b2),(29,.agg #[iv a1,iv a2,iv a7,iv a8,iv a9,iv aA,iv aB,iv aC,iv aD,iv aE,iv a3,iv a4,iv a5,iv a6])] hF (oN 149 3 0 14 hS.i rfl<|A1) fun a hF=>?_
     refine SK.wi (qL 149 87 1 [(api_Echo.mk a1 (api_Span.mk a2 a7) ((api_Span.mk a8 a9),(api_Span.mk aA aB)) aC (api_Span.mk aD aE) (api_Span.mk a3 a4) (api_Span.mk a5 a6))] (fun c4=>[(30,sb c4 1)]) api_Echo.cells_len hF hS fun c4 w a hF hS=>?_)
     obtain ⟨bG,cL,h⟩:=A0 h
     refine SK.wi (qP 87 87 1 (fun aZ b3=>[(31,sv aZ bG b3)]) hF hS (hS.arr (i:=0) rfl) cL rfl fun aZ b3 w a hF hS=>?_)
     refine rn 1 5 [(0,pb cb0),(1,iv p1),(3,.func (.func 95) #[pb cb0] #[]),(6,pb b4),(9,sv aZ bG b3),(25,iv aF.1),(26,iv aV)] hF fun a hF=>WI.fin rfl (A9<|A3<|?_)
     refine WI.region ?_
     obtain ⟨cC,cM,h⟩:=A0 h
     refine ro 2 2 [(0,pb cb0),(1,iv p1),(3,.func (.func 95) #[pb cb0] #[]),(6,pb b4),(9,sv aZ bG b3),(25,iv aF.1),(26,iv cC)] hF (oA 3 cM<|A1) fun a hF=>wfn rfl ?_
     rw [hk6] at h
     exact ⟨nk6,Nat.lt_succ_self _,cC,bG,aZ,b3,hF.sub kr,hS.d0,h⟩
    ·refine wpIn_exit (A5<|A5<|Ar<|A3 ?_)
     exact ⟨aP,aY,b2,hF.sub kr,hS,h⟩
   rintro a w ⟨aH,aM,aO,hF,hS,h⟩
   rw [Ce] at h
   refine qnB [(36,.bool (decide ((ln aH)<p1)))] hF fun a hF=>?_
   refine A8 hF h (fun hc h=>?_) fun hc h=>?_
   ·refine esr<|qn 1 1 [(37,.func (.func 95) #[pb cb0] #[])] hF fun a hF=>?_
    obtain ⟨cV,cP,h⟩:=A0 h
    replace hS:=hS.s2.s2
    refine Ee (fun cB=>[(0,pb cb0),(1,iv p1),(3,.func (.func 95) #[pb cb0] #[]),(6,pb b4),(9,sv aM aH aO),(38,cB)]) hF kr ⟨kr⟩ (Qc F _ _ cP ν575 w0 w _ hlow aQ hS) (fun _=>⟨kr⟩) ?_ ?_
    ·rintro cT w he_ ⟨ν623,cE,cG,aS,hlow,cJ,hS⟩
     replace h:=H0 h he_
     replace hext:=hext.t aS
     replace hA3:=hA3.mono aS.1
     replace aK:=aK.mono aS.1
     replace aQ:=aQ.mono aS.1
     replace aI:=aI.t aS.1
     replace aJ:=aJ.t aS.1
     refine A6<|Ah<|A6<|Ah<|A6<|Az hF ?_
     obtain rfl:=Ae h
     replace hS:=hS.d3.d2
     exact .inr ⟨_,rfl,rfl,ν623,cE,cG,hext,hlow,cJ,hS⟩
    rintro a0 cB w a he_ ⟨ν617,bH,bI,aR,hlow,rfl,c8,hS⟩ hF
    replace h:=H3 h he_
    replace hext:=hext.t aR
    replace hA3:=hA3.mono aR.1
    replace aK:=aK.mono aR.1
    replace aQ:=aQ.mono aR.1
    replace aI:=aI.t aR.1
    replace aJ:=aJ.t aR.1
    refine SK.wi (rA 149 Xa (fun bA=>[(0,pb cb0),(1,iv p1),(3,.func (.func 95) #[pb cb0] #[]),(6,pb b4),(9,sv aM aH aO),(11,pb bA),(38,a0.1.ag)]) hF hS fun bA w a hF hS=>?_)
    refine SK.wi (qw 149 0 a0.1.ar hF hS rfl fun w a hF hS=>wfn rfl ?_)
    refine Dx (fun a w=>Fr 49 [] [(0,pb cb0),(1,iv p1),(3,.func (.func 95) #[pb cb0] #[]),(6,pb b4),(9,sv aM aH aO),(11,pb bA)] a∧St w0 (blk bA 149 a0.1.ar::fz w0 ν617::blk cb0 125 #[sv bH a0.2.b bI]::arr 149 14 api_Echo.cells aM aH.length aO aH::blk b4 149 #[iv a1,iv a2,iv a7,iv a8,iv a9,iv aA,iv aB,iv aC,iv aD,iv aE,iv a3,iv a4,iv a5,iv a6]::T_) w∧Do k2 aH a0=some res) ?_ ?_
    ·skip
     refine qoB [(41,.bool (((a0.1.Kind:Int)==a1)&&((((a0.1.Power.Lo:Int)==a2)&&(((a0.1.Power.Hi:Int)==a7)&&true))&&(((((a0.1.Steps.1.Lo:Int)==a8)&&(((a0.1.Steps.1.Hi:Int)==a9)&&true))&&((((a0.1.Steps.2.Lo:Int)==aA)&&(((a0.1.Steps.2.Hi:Int)==aB)&&true))&&true))&&(((a0.1.Spread:Int)==aC)&&((((a0.1.Ratio.Lo:Int)==aD)&&(((a0.1.Ratio.Hi:Int)==aE)&&true))&&((((a0.1.Match.Lo:Int)==a3)&&(((a0.1.Match.Hi:Int)==a4)&&true))&&((((a0.1.Turn.Lo:Int)==a5)&&(((a0.1.Turn.Hi:Int)==a6)&&true))&&true))))))))] hF (oN 149 0 0 14 hS.i rfl<|oN 149 4 0 14 hS.i rfl<|oX (.run [] (eqS .eql 149 a0.1.ar #[iv a1,iv a2,iv a7,iv a8,iv a9,iv aA,iv aB,iv aC,iv aD,iv aE,iv a3,iv a4,iv a5,iv a6]) (.bool (((a0.1.Kind:Int)==a1)&&((((a0.1.Power.Lo:Int)==a2)&&(((a0.1.Power.Hi:Int)==a7)&&true))&&(((((a0.1.Steps.1.Lo:Int)==a8)&&(((a0.1.Steps.1.Hi:Int)==a9)&&true))&&((((a0.1.Steps.2.Lo:Int)==aA)&&(((a0.1.Steps.2.Hi:Int)==aB)&&true))&&true))&&(((a0.1.Spread:Int)==aC)&&((((a0.1.Ratio.Lo:Int)==aD)&&(((a0.1.Ratio.Hi:Int)==aE)&&true))&&((((a0.1.Match.Lo:Int)==a3)&&(((a0.1.Match.Hi:Int)==a4)&&true))&&((((a0.1.Turn.Lo:Int)==a5)&&(((a0.1.Turn.Hi:Int)==a6)&&true))&&true))))))))) (La kr kr)<|A1) fun a hF=>?_
     refine A8 hF h (fun hc h=>?_) fun hc h=>?_
     ·refine WI.region<|qn 1 1 [(42,.iface 128 (iv 7))] hF fun a hF=>?_
      refine Qa (t:=128) (v:=iv 7) hF ⟨kr⟩ (A6<|Ah<|A6<|Ah<|A6<|Az hF ?_)
      obtain rfl:=Ae h
      replace hS:=hS.d4.d3.d0
      exact .inr ⟨_,rfl,rfl,ν617,bH,bI,hext,hlow,c8,hS⟩
     ·refine wK ?_
      exact ⟨hF.sub kr,hS,h⟩
    rintro a w ⟨hF,hS,h⟩
    rw [Do] at h
    refine esr<|qo 1 1 [(43,a0.1.ag)] hF (oN 149 0 0 14 hS.i rfl<|A1) fun a hF=>?_
    refine SK.wi (qw 149 4 a0.1.ar hF hS rfl fun w a hF hS=>wfn rfl ?_)
    refine WI.region<|qo 2 2 [(44,sv aM aH aO),(45,a0.1.ag)] hF (oN 149 0 0 14 hS.i rfl<|A1) fun a hF=>?_
    refine SK.wi (qL 149 87 1 [(api_Echo.mk a0.1.Kind (api_Span.mk a0.1.Power.Lo a0.1.Power.Hi) ((api_Span.mk a0.1.Steps.1.Lo a0.1.Steps.1.Hi),(api_Span.mk a0.1.Steps.2.Lo a0.1.Steps.2.Hi)) a0.1.Spread (api_Span.mk a0.1.Ratio.Lo a0.1.Ratio.Hi) (api_Span.mk a0.1.Match.Lo a0.1.Match.Hi) (api_Span.mk a0.1.Turn.Lo a0.1.Turn.Hi))] (fun c3=>[(46,sb c3 1)]) api_Echo.cells_len hF hS fun c3 w a hF hS=>?_)
    obtain ⟨bL,cK,h⟩:=A0 h
    refine SK.wi (qP 87 87 4 (fun b9 bD=>[(47,sv b9 bL bD)]) hF hS (hS.arr (i:=0) rfl) cK rfl fun b9 bD w a hF hS=>?_)
    refine rn 1 5 [(0,pb cb0),(1,iv p1),(3,.func (.func 95) #[pb cb0] #[]),(6,pb b4),(9,sv b9 bL bD)] hF fun a hF=>WI.fin rfl (A9<|A3<|?_)
    rw [hk2] at h
    exact ⟨nk2,Nat.lt_succ_self _,a0.1.Kind,a0.1.Power.Lo,a0.1.Match.Lo,a0.1.Match.Hi,a0.1.Turn.Lo,a0.1.Turn.Hi,a0.1.Power.Hi,a0.1.Steps.1.Lo,a0.1.Steps.1.Hi,a0.1.Steps.2.Lo,a0.1.Steps.2.Hi,a0.1.Spread,a0.1.Ratio.Lo,a0.1.Ratio.Hi,a0.2.b,bL,ν617,bH,bI,b9,bD,hF.sub kr,hS.d1.d0.s3.s3,c8,aJ,hext,hlow,h⟩
   ·refine wpIn_skip (A9<|A3<|?_)
    rw [hk2] at h
    exact ⟨nk2,Nat.lt_succ_self _,a1,a2,a3,a4,a5,a6,a7,a8,a9,aA,aB,aC,aD,aE,aF.2.b,aH,ν575,aX,b1,aM,aO,hF.sub kr,hS.s3.s1,aQ,aJ,hext,hlow,h⟩
  ·refine wpIn_exit (A5<|A5<|Ar<|A3 ?_)
   exact ⟨a1,a2,a3,a4,a5,a6,a7,a8,a9,aA,aB,aC,aD,aE,aU,aG,ν548,b8,bC,aL,aN,hF.sub kr,hS,aK,aI,hext,hlow,h⟩
 clear aI
 rintro a w ⟨bM,bN,bO,bP,bQ,bR,bS,bT,bU,bV,bW,bX,bY,bZ,bF,aT,ν319,b7,bB,aW,b0,hF,hS,bJ,bK,hext,hlow,h⟩
 replace hA3:=hA3.mono bK
 rw [Cc] at h
 refine rnB [(8,sv aW aT b0)] hF fun a hF=>?_
 refine wpIn_ret (A7 [.tmp 8] [_] hF rfl ⟨rfl,trivial⟩ ?_)
 obtain ⟨ν342,bE,hlow,hS,cQ⟩:=hS.freeze (i:=2) (j:=0) rfl rfl (by decide) hlow
 replace hA3:=hA3.mono bE.1
 replace bJ:=bJ.mono bE.1
 replace bK:=bK.t bE.1
 replace hext:=hext.t bE
 have cH:=ArrM.of_arr cQ
 obtain rfl:=Ae h
 replace hS:=hS.d0
 exact .inl ⟨_,_,rfl,rfl,ν342,aW,b0,b7,bB,hext,hlow,rfl,cH,bJ,hS⟩
theorem Ll (F:Nat) (p0:volume_reader) (p1:Int) (p2:api_Span) (res:Except (Value×volume_reader) ((List api_Span)×volume_reader)) (h:Cv F p0 p1 p2=some res) (μ:Frz) (w0 w1:World) (T_:List Res) (hlow:Ax w0 μ) {cb0:Nat} {ad1:Option Addr} {cap2:Nat} (hA3:ArrM μ 1 (fK .u8) ad1 cap2 p0.b) (hS:St w0 (fz w0 μ::blk cb0 125 #[sv ad1 p0.b cap2]::T_) w1):Py Tryz.prog 97 #[pb cb0,iv p1,.agg #[iv p2.Lo,iv p2.Hi],.func (.func 98) #[pb cb0] #[]] w1 res (fun r_ e w=>∃(ν_:Frz) (bC:Option Addr) (bH:Nat) (bD:Option Addr) (bI:Nat),μ.ext w0.heap.size ν_∧Ax w0 ν_∧e=(sv bC r_.1 bH)∧ArrM ν_ 2 api_Span.cells bC bH r_.1∧(ArrM ν_ 1 (fK .u8) bD bI r_.2.b)∧St w0 (fz w0 ν_::blk cb0 125 #[sv bD r_.2.b bI]::T_) w) (fun e_ w=>∃(ν_:Frz) (bE:Option Addr) (bJ:Nat),μ.ext w0.heap.size ν_∧Ax w0 ν_∧(ArrM ν_ 1 (fK .u8) bE bJ e_.b)∧St w0 (fz w0 ν_::blk cb0 125 #[sv bE e_.b bJ]::T_) w):=by
 rw [Cv] at h
 have hext:=Frz.ext_refl w0.heap.size μ
 refine feW Tryz.func97 49 [(0,pb cb0),(1,iv p1),(2,.agg #[iv p2.Lo,iv p2.Hi]),(3,.func (.func 98) #[pb cb0] #[])] hS fun a w hF hS=>?_
 refine esr<|SK.wi (qBa 146 #[iv p2.Lo,iv p2.Hi] (fun b4=>[(6,pb b4)]) hF hS fun b4 w a hF hS=>?_)
 refine qn 1 2 [] hF fun a hF=>wfn rfl ?_
 refine qnB [(9,.slice none 0 0)] hF fun a hF=>?_
 have a6:=Frz.le_refl μ
 refine Dx (fun a w=>∃(bA:Int) (bB:Int) (b2:(List Int)) (aH:(List api_Span)) (ν295:Frz) (aU:Option Addr) (aY:Nat) (aK:Option Addr) (aO:Nat),Fr 49 [] [(9,sv aK aH aO)] a∧St w0 (arr 146 2 api_Span.cells aK aH.length aO aH::blk b4 146 #[iv bA,iv bB]::fz w0 ν295::blk cb0 125 #[sv aU b2 aY]::T_) w∧(ArrM ν295 1 (fK .u8) aU aY b2)∧(μ.le ν295)∧(μ.ext w0.heap.size ν295)∧(Ax w0 ν295)∧Cg bA bB b2 aH=some res) ?_ ?_
 ·skip
  refine wpIn_block ?_
  have bL:=Frz.le_refl μ
  replace hS:=hS.nilarr 146 2 api_Span.cells
  refine Ck (fun n_ a w=>∃(a1:Int) (a2:Int) (aI:(List Int)) (a4:(List api_Span)) (ν500:Frz) (aV:Option Addr) (aZ:Nat) (a9:Option Addr) (aB:Nat),Fr 49 [] [(0,pb cb0),(1,iv p1),(3,.func (.func 98) #[pb cb0] #[]),(6,pb b4),(9,sv a9 a4 aB)] a∧St w0 (arr 146 2 api_Span.cells a9 a4.length aB a4::blk b4 146 #[iv a1,iv a2]::fz w0 ν500::blk cb0 125 #[sv aV aI aZ]::T_) w∧(ArrM ν500 1 (fK .u8) aV aZ aI)∧(μ.le ν500)∧(μ.ext w0.heap.size ν500)∧(Ax w0 ν500)∧B2 F p1 n_ a1 a2 aI a4=some res) F ⟨p2.Lo,p2.Hi,p0.b,[],μ,ad1,cap2,none,0,hF.sub kr,hS,hA3,bL,hext,hlow,h⟩ ?_
  clear bL
  rintro nk2 a w ⟨a1,a2,aI,a4,ν500,aV,aZ,a9,aB,hF,hS,a8,a7,hext,hlow,h⟩
  rcases nk2 with _|nk2
  ·cases (show (none:Option (Except (Value×volume_reader) ((List api_Span)×volume_reader)))=some res from h)
  replace hA3:=hA3.mono a7
  replace a6:=a6.t a7
  obtain ⟨k2,hk2⟩:∃k,k=B2 F p1 nk2:=⟨_,rfl⟩
  replace h:Cf F p1 k2 a1 a2 aI a4=some res:=by rw [hk2];exact h
  rw [Cf] at h
  refine Am<|qnB [(15,.bool (decide ((ln a4)<p1)))] hF fun a hF=>?_
  refine A8 hF h (fun hc h=>?_) fun hc h=>?_
  ·refine wK<|wpIn_block<|esr<|qn 1 1 [(16,pb cb0)] hF fun a hF=>?_
   obtain ⟨c6,c0,h⟩:=A0 h
   replace hS:=hS.s3.s3
   refine Ee (fun bM=>[(0,pb cb0),(1,iv p1),(3,.func (.func 98) #[pb cb0] #[]),(6,pb b4),(9,sv a9 a4 aB),(17,bM)]) hF kr ⟨kr⟩ (Ai F _ _ c0 ν500 w0 w _ hlow a8 hS) (fun _=>⟨kr⟩) ?_ ?_
   ·rintro c4 w he_ ⟨ν521,bP,bR,aT,hlow,bU,hS⟩
    replace h:=H0 h he_
    replace hext:=hext.t aT
    replace hA3:=hA3.mono aT.1
    replace a8:=a8.mono aT.1
    replace a6:=a6.t aT.1
    replace a7:=a7.t aT.1
    refine A6<|Ah<|A6<|Ah<|A6<|Az hF ?_
    obtain rfl:=Ae h
    replace hS:=hS.d3.d2
    exact .inr ⟨_,rfl,rfl,ν521,bP,bR,hext,hlow,bU,hS⟩
   rintro a3 bM w a he_ ⟨ν515,aL,aP,aS,hlow,rfl,aE,hS⟩ hF
   replace h:=H3 h he_
   replace hext:=hext.t aS
   replace hA3:=hA3.mono aS.1
   replace a8:=a8.mono aS.1
   replace a6:=a6.t aS.1
   replace a7:=a7.t aS.1
   refine rn 1 3 [(0,pb cb0),(1,iv p1),(3,.func (.func 98) #[pb cb0] #[]),(6,pb b4),(9,sv a9 a4 aB),(10,iv a3.1)] hF fun a hF=>wfn rfl ?_
   refine Dx (fun a w=>Fr 49 [] [(0,pb cb0),(1,iv p1),(3,.func (.func 98) #[pb cb0] #[]),(6,pb b4),(9,sv a9 a4 aB),(10,iv a3.1)] a∧St w0 (fz w0 ν515::blk cb0 125 #[sv aL a3.2.b aP]::arr 146 2 api_Span.cells a9 a4.length aB a4::blk b4 146 #[iv a1,iv a2]::T_) w∧Dq F p1 a1 a2 a4 k2 a3=some res) ?_ ?_
   ·skip
    refine esr ?_
    obtain ⟨c3,bZ,h⟩:=A0 h
    refine qo 6 6 [(23,.bool (decide (a3.1>c3)))] hF (oS 3 bZ<|A1) fun a hF=>wfn rfl ?_
    refine A8 hF h (fun hc h=>?_) fun hc h=>?_
    ·refine WI.region<|qn 1 1 [(24,.iface 128 (iv 7))] hF fun a hF=>?_
     refine Qa (t:=128) (v:=iv 7) hF ⟨kr⟩ (A6<|Ah<|A6<|Ah<|A6<|Az hF ?_)
     obtain rfl:=Ae h
     replace hS:=hS.d3.d2
     exact .inr ⟨_,rfl,rfl,ν515,aL,aP,hext,hlow,aE,hS⟩
    ·refine wK ?_
     exact ⟨hF.sub kr,hS,h⟩
   rintro a w ⟨hF,hS,h⟩
   rw [Dq] at h
   refine Dx (fun a w=>∃(a5:(List api_Span)) (aA:Option Addr) (aC:Nat),Fr 49 [] [(0,pb cb0),(1,iv p1),(3,.func (.func 98) #[pb cb0] #[]),(6,pb b4),(9,sv aA a5 aC)] a∧St w0 (arr 146 2 api_Span.cells aA a5.length aC a5::fz w0 ν515::blk cb0 125 #[sv aL a3.2.b aP]::blk b4 146 #[iv a1,iv a2]::T_) w∧Ch F p1 a1 a2 k2 a3 a5=some res) ?_ ?_
   ·skip
    refine qnB [(25,iv a3.1),(26,iv 0)] hF fun a hF=>?_
    refine wpIn_block<|Ck (fun n_ a w=>∃(aJ:Int) (aD:(List api_Span)) (aM:Option Addr) (aQ:Nat),Fr 49 [] [(0,pb cb0),(1,iv p1),(3,.func (.func 98) #[pb cb0] #[]),(6,pb b4),(9,sv aM aD aQ),(25,iv a3.1),(26,iv aJ)] a∧St w0 (arr 146 2 api_Span.cells aM aD.length aQ aD::fz w0 ν515::blk cb0 125 #[sv aL a3.2.b aP]::blk b4 146 #[iv a1,iv a2]::T_) w∧Bd F p1 a1 a2 k2 a3 n_ aJ aD=some res) F ⟨0,a4,a9,aB,hF.sub kr,hS.s2,h⟩ ?_
    rintro nk6 a w ⟨aJ,aD,aM,aQ,hF,hS,h⟩
    rcases nk6 with _|nk6
    ·cases (show (none:Option (Except (Value×volume_reader) ((List api_Span)×volume_reader)))=some res from h)
    obtain ⟨k6,hk6⟩:∃k,k=Bd F p1 a1 a2 k2 a3 nk6:=⟨_,rfl⟩
    replace h:Dp F p1 a1 a2 k2 a3 k6 aJ aD=some res:=by rw [hk6];exact h
    rw [Dp] at h
    refine qnB [(27,.bool (decide (aJ<a3.1)))] hF fun a hF=>?_
    refine Am<|A8 hF h (fun hc h=>?_) fun hc h=>?_
    ·refine wK<|Am<|wpIn_block<|WI.region<|qo 2 2 [(28,sv aM aD aQ),(29,.agg #[iv a1,iv a2])] hF (oN 146 3 0 2 hS.i rfl<|A1) fun a hF=>?_
     refine SK.wi (qL 146 44 1 [(api_Span.mk a1 a2)] (fun bG=>[(30,sb bG 1)]) api_Span.cells_len hF hS fun bG w a hF hS=>?_)
     obtain ⟨b3,bX,h⟩:=A0 h
     refine SK.wi (qP 44 44 1 (fun aN aR=>[(31,sv aN b3 aR)]) hF hS (hS.arr (i:=0) rfl) bX rfl fun aN aR w a hF hS=>?_)
     refine rn 1 5 [(0,pb cb0),(1,iv p1),(3,.func (.func 98) #[pb cb0] #[]),(6,pb b4),(9,sv aN b3 aR),(25,iv a3.1),(26,iv aJ)] hF fun a hF=>WI.fin rfl (A9<|A3<|?_)
     refine WI.region ?_
     obtain ⟨bO,bY,h⟩:=A0 h
     refine ro 2 2 [(0,pb cb0),(1,iv p1),(3,.func (.func 98) #[pb cb0] #[]),(6,pb b4),(9,sv aN b3 aR),(25,iv a3.1),(26,iv bO)] hF (oA 3 bY<|A1) fun a hF=>wfn rfl ?_
     rw [hk6] at h
     exact ⟨nk6,Nat.lt_succ_self _,bO,b3,aN,aR,hF.sub kr,hS.d0,h⟩
    ·refine wpIn_exit (A5<|A5<|Ar<|A3 ?_)
     exact ⟨aD,aM,aQ,hF.sub kr,hS,h⟩
   rintro a w ⟨a5,aA,aC,hF,hS,h⟩
   rw [Ch] at h
   refine qnB [(36,.bool (decide ((ln a5)<p1)))] hF fun a hF=>?_
   refine A8 hF h (fun hc h=>?_) fun hc h=>?_
   ·refine esr<|qn 1 1 [(37,.func (.func 98) #[pb cb0] #[])] hF fun a hF=>?_
    obtain ⟨c7,c1,h⟩:=A0 h
    replace hS:=hS.s2.s2
    refine Ee (fun bN=>[(0,pb cb0),(1,iv p1),(3,.func (.func 98) #[pb cb0] #[]),(6,pb b4),(9,sv aA a5 aC),(38,bN)]) hF kr ⟨kr⟩ (Cz F _ _ c1 ν515 w0 w _ hlow aE hS) (fun _=>⟨kr⟩) ?_ ?_
    ·rintro c5 w he_ ⟨ν563,bQ,bS,aG,hlow,bV,hS⟩
     replace h:=H0 h he_
     replace hext:=hext.t aG
     replace hA3:=hA3.mono aG.1
     replace a8:=a8.mono aG.1
     replace aE:=aE.mono aG.1
     replace a6:=a6.t aG.1
     replace a7:=a7.t aG.1
     refine A6<|Ah<|A6<|Ah<|A6<|Az hF ?_
     obtain rfl:=Ae h
     replace hS:=hS.d3.d2
     exact .inr ⟨_,rfl,rfl,ν563,bQ,bS,hext,hlow,bV,hS⟩
    rintro a0 bN w a he_ ⟨ν557,b5,b6,aF,hlow,rfl,bK,hS⟩ hF
    replace h:=H3 h he_
    replace hext:=hext.t aF
    replace hA3:=hA3.mono aF.1
    replace a8:=a8.mono aF.1
    replace aE:=aE.mono aF.1
    replace a6:=a6.t aF.1
    replace a7:=a7.t aF.1
    refine SK.wi (rA 146 #[iv 0,iv 0] (fun aX=>[(0,pb cb0),(1,iv p1),(3,.func (.func 98) #[pb cb0] #[]),(6,pb b4),(9,sv aA a5 aC),(11,pb aX),(38,.agg #[iv a0.1.Lo,iv a0.1.Hi])]) hF hS fun aX w a hF hS=>?_)
    refine SK.wi (qw 146 0 #[iv a0.1.Lo,iv a0.1.Hi] hF hS rfl fun w a hF hS=>wfn rfl ?_)
    refine Dx (fun a w=>Fr 49 [] [(0,pb cb0),(1,iv p1),(3,.func (.func 98) #[pb cb0] #[]),(6,pb b4),(9,sv aA a5 aC),(11,pb aX)] a∧St w0 (blk aX 146 #[iv a0.1.Lo,iv a0.1.Hi]::fz w0 ν557::blk cb0 125 #[sv b5 a0.2.b b6]::arr 146 2 api_Span.cells aA a5.length aC a5::blk b4 146 #[iv a1,iv a2]::T_) w∧Dr k2 a5 a0=some res) ?_ ?_
    ·skip
     refine qoB [(41,.bool (((a0.1.Lo:Int)==a1)&&(((a0.1.Hi:Int)==a2)&&true)))] hF (oN 146 0 0 2 hS.i rfl<|oN 146 4 0 2 hS.i rfl<|oX (.run [] (eqS .eql 146 #[iv a0.1.Lo,iv a0.1.Hi] #[iv a1,iv a2]) (.bool (((a0.1.Lo:Int)==a1)&&(((a0.1.Hi:Int)==a2)&&true)))) (La kr kr)<|A1) fun a hF=>?_
     refine A8 hF h (fun hc h=>?_) fun hc h=>?_
     ·refine WI.region<|qn 1 1 [(42,.iface 128 (iv 7))] hF fun a hF=>?_
      refine Qa (t:=128) (v:=iv 7) hF ⟨kr⟩ (A6<|Ah<|A6<|Ah<|A6<|Az hF ?_)
      obtain rfl:=Ae h
      replace hS:=hS.d4.d3.d0
      exact .inr ⟨_,rfl,rfl,ν557,b5,b6,hext,hlow,bK,hS⟩
     ·refine wK ?_
      exact ⟨hF.sub kr,hS,h⟩
    rintro a w ⟨hF,hS,h⟩
    rw [Dr] at h
    refine esr<|qo 1 1 [(43,.agg #[iv a0.1.Lo,iv a0.1.Hi])] hF (oN 146 0 0 2 hS.i rfl<|A1) fun a hF=>?_
    refine SK.wi (qw 146 4 #[iv a0.1.Lo,iv a0.1.Hi] hF hS rfl fun w a hF hS=>wfn rfl ?_)
    refine WI.region<|qo 2 2 [(44,sv aA a5 aC),(45,.agg #[iv a0.1.Lo,iv a0.1.Hi])] hF (oN 146 0 0 2 hS.i rfl<|A1) fun a hF=>?_
    refine SK.wi (qL 146 44 1 [(api_Span.mk a0.1.Lo a0.1.Hi)] (fun bF=>[(46,sb bF 1)]) api_Span.cells_len hF hS fun bF w a hF hS=>?_)
    obtain ⟨b9,bW,h⟩:=A0 h
    refine SK.wi (qP 44 44 4 (fun aW b0=>[(47,sv aW b9 b0)]) hF hS (hS.arr (i:=0) rfl) bW rfl fun aW b0 w a hF hS=>?_)
    refine rn 1 5 [(0,pb cb0),(1,iv p1),(3,.func (.func 98) #[pb cb0] #[]),(6,pb b4),(9,sv aW b9 b0)] hF fun a hF=>WI.fin rfl (A9<|A3<|?_)
    rw [hk2] at h
    exact ⟨nk2,Nat.lt_succ_self _,a0.1.Lo,a0.1.Hi,a0.2.b,b9,ν557,b5,b6,aW,b0,hF.sub kr,hS.d1.d0.s3.s3,bK,a7,hext,hlow,h⟩
   ·refine wpIn_skip (A9<|A3<|?_)
    rw [hk2] at h
    exact ⟨nk2,Nat.lt_succ_self _,a1,a2,a3.2.b,a5,ν515,aL,aP,aA,aC,hF.sub kr,hS.s3.s1,aE,a7,hext,hlow,h⟩
  ·refine wpIn_exit (A5<|A5<|Ar<|A3 ?_)
   exact ⟨a1,a2,aI,a4,ν500,aV,aZ,a9,aB,hF.sub kr,hS,a8,a6,hext,hlow,h⟩
 clear a6
 rintro a w ⟨bA,bB,b2,aH,ν295,aU,aY,aK,aO,hF,hS,b7,b8,hext,hlow,h⟩
 replace hA3:=hA3.mono b8
 rw [Cg] at h
 refine rnB [(8,sv aK aH aO)] hF fun a hF=>?_
 refine wpIn_ret (A7 [.tmp 8] [_] hF rfl ⟨rfl,trivial⟩ ?_)
 obtain ⟨ν306,b1,hlow,hS,c2⟩:=hS.freeze (i:=2) (j:=0) rfl rfl (by decide) hlow
 replace hA3:=hA3.mono b1.1
 replace b7:=b7.mono b1.1
 replace b8:=b8.t b1.1
 replace hext:=hext.t b1
 have bT:=ArrM.of_arr c2
 obtain rfl:=Ae h
 replace hS:=hS.d0
 exact .inl ⟨_,_,rfl,rfl,ν306,aK,aO,aU,aY,hext,hlow,rfl,bT,b7,hS⟩
theorem Pq (F:Nat) (p0:volume_reader) (res:Except (Value×volume_reader) (volume_thing×volume_reader)) (h:Cs F p0=some res) (μ:Frz) (w0 w1:World) (T_:List Res) (hlow:Ax w0 μ) {cb0:Nat} {ad1:Option Addr} {cap2:Nat} (hA3:ArrM μ 1 (fK .u8) ad1 cap2 p0.b) (hS:St w0 (fz w0 μ::blk cb0 125 #[sv ad1 p0.b cap2]::T_) w1):Py Tryz.prog 70 #[pb cb0] w1 res (fun r_ e w=>∃(ν_:Frz) (eE:Value) (dO:Option Addr) (dS:Nat),μ.ext w0.heap.size ν_∧Ax w0 ν_∧e=(eE)∧volume_thing.R ν_ eE r_.1∧(ArrM ν_ 1 (fK .u8) dO dS r_.2.b)∧St w0 (fz w0 ν_::blk cb0 125 #[sv dO r_.2.b dS]::T_) w) (fun e_ w=>∃(ν_:Frz) (dP:Option Addr) (dT:Nat),μ.ext w0.heap.size ν_∧Ax w0 ν_∧(ArrM ν_ 1 (fK .u8) dP dT e_.b)∧St w0 (fz w0 ν_::blk cb0 125 #[sv dP e_.b dT]::T_) w):=by
 rw [Cs] at h
 have hext:=Frz.ext_refl w0.heap.size μ
 refine feW Tryz.func70 155 [(0,pb cb0)] hS fun a w hF hS=>?_
 refine qnB [] hF fun a hF=>?_
 have a1:=Frz.le_refl μ
 refine Dx (fun a w=>∃(d8:(List Int)) (ν600:Frz) (cR:Option Addr) (cU:Nat),Fr 155 [] [] a∧St w0 (fz w0 ν600::blk cb0 125 #[sv cR d8 cU]::T_) w∧(ArrM ν600 1 (fK .u8) cR cU d8)∧(μ.le ν600)∧(μ.ext w0.heap.size ν600)∧(Ax w0 ν600)∧Fu d8=some res) ?_ ?_
 ·skip
  refine esr<|qn 1 1 [(9,pb cb0)] hF fun a hF=>?_
  obtain ⟨k3,hM,h⟩:=A0 h
  refine Ee (fun eF=>[(0,pb cb0),(10,eF)]) hF kr ⟨kr⟩ (Ai F _ _ hM μ w0 w _ hlow hA3 hS) (fun _=>⟨kr⟩) ?_ ?_
  ·rintro jE w he_ ⟨ν616,f6,g0,dH,hlow,gR,hS⟩
   replace h:=H0 h he_
   replace hext:=hext.t dH
   replace hA3:=hA3.mono dH.1
   replace a1:=a1.t dH.1
   refine A6<|A6<|Az hF ?_
   obtain rfl:=Ae h
   replace hS:=hS
   exact .inr ⟨_,rfl,rfl,ν616,f6,g0,hext,hlow,gR,hS⟩
  rintro cQ eF w a he_ ⟨ν610,f5,fZ,dG,hlow,rfl,a2,hS⟩ hF
  replace h:=H3 h he_
  replace hext:=hext.t dG
  replace hA3:=hA3.mono dG.1
  replace a1:=a1.t dG.1
  refine wfn rfl ?_
  refine wpIn_block<|rnB [(0,pb cb0),(10,iv cQ.1),(11,.bool (cQ.1==1))] hF fun a hF=>?_
  refine A8 hF h (fun hc h=>?_) fun hc h=>?_
  ·refine esr<|SK.wi (qA 41 z41 (fun a0=>[(3,pb a0)]) hF hS fun a0 w a hF hS=>wfn rfl ?_)
   refine esr<|qn 1 1 [(13,pb cb0)] hF fun a hF=>?_
   obtain ⟨k5,hN,h⟩:=A0 h
   replace hS:=hS.s2.s2
   refine Ee (fun eG=>[(0,pb cb0),(3,pb a0),(14,eG)]) hF kr ⟨kr⟩ (J2 F _ _ hN ν610 w0 w _ hlow a2 hS) (fun _=>⟨kr⟩) ?_ ?_
   ·rintro jF w he_ ⟨ν631,f7,g1,d7,hlow,gS,hS⟩
    replace h:=H0 h he_
    replace hext:=hext.t d7
    replace hA3:=hA3.mono d7.1
    replace a2:=a2.mono d7.1
    replace a1:=a1.t d7.1
    refine A6<|Ah<|A6<|Az hF ?_
    obtain rfl:=Ae h
    replace hS:=hS.d2
    exact .inr ⟨_,rfl,rfl,ν631,f7,g1,hext,hlow,gS,hS⟩
   rintro aL eG w a he_ ⟨ν625,iE,iU,d6,hlow,rfl,a4,hS⟩ hF
   replace h:=H3 h he_
   replace hext:=hext.t d6
   replace hA3:=hA3.mono d6.1
   replace a2:=a2.mono d6.1
   replace a1:=a1.t d6.1
   refine rn 2 4 [(0,pb cb0),(3,pb a0),(14,.string aL.1),(16,pb a0)] hF fun a hF=>?_
   refine SK.wi (qs 9 2 0 (.string aL.1) hF hS rfl fun w a hF hS=>wfn rfl ?_)
   refine esr<|qn 1 1 [(17,pb cb0)] hF fun a hF=>?_
   obtain ⟨k6,hO,h⟩:=A0 h
   refine Ee (fun eH=>[(0,pb cb0),(3,pb a0),(18,eH)]) hF kr ⟨kr⟩ (E2 F _ _ hO ν625 w0 w _ hlow a4 hS) (fun _=>⟨kr⟩) ?_ ?_
   ·rintro jG w he_ ⟨ν645,f8,g2,cO,hlow,gT,hS⟩
    replace h:=H0 h he_
    replace hext:=hext.t cO
    replace hA3:=hA3.mono cO.1
    replace a2:=a2.mono cO.1
    replace a4:=a4.mono cO.1
    replace a1:=a1.t cO.1
    refine A6<|Ah<|A6<|Az hF ?_
    obtain rfl:=Ae h
    replace hS:=hS.d2
    exact .inr ⟨_,rfl,rfl,ν645,f8,g2,hext,hlow,gT,hS⟩
   rintro aH eH w a he_ ⟨ν639,iF,iV,cN,hlow,rfl,a5,hS⟩ hF
   replace h:=H3 h he_
   replace hext:=hext.t cN
   replace hA3:=hA3.mono cN.1
   replace a2:=a2.mono cN.1
   replace a4:=a4.mono cN.1
   replace a1:=a1.t cN.1
   refine rn 1 3 [(0,pb cb0),(3,pb a0),(18,iv aH.1),(19,pb cb0)] hF fun a hF=>?_
   obtain ⟨k7,hP,h⟩:=A0 h
   refine Ee (fun eI=>[(0,pb cb0),(3,pb a0),(18,iv aH.1),(20,eI)]) hF kr ⟨kr⟩ (E2 F _ _ hP ν639 w0 w _ hlow a5 hS) (fun _=>⟨kr⟩) ?_ ?_
   ·rintro jH w he_ ⟨ν659,f9,g3,cB,hlow,gU,hS⟩
    replace h:=H0 h he_
    replace hext:=hext.t cB
    replace hA3:=hA3.mono cB.1
    replace a2:=a2.mono cB.1
    replace a4:=a4.mono cB.1
    replace a5:=a5.mono cB.1
    replace a1:=a1.t cB.1
    refine A6<|Ah<|A6<|Az hF ?_
    obtain rfl:=Ae h
    replace hS:=hS.d2
    exact .inr ⟨_,rfl,rfl,ν659,f9,g3,hext,hlow,gU,hS⟩
   rintro aM eI w a he_ ⟨ν653,iG,iW,cA,hlow,rfl,a6,hS⟩ hF
   replace h:=H3 h he_
   replace hext:=hext.t cA
   replace hA3:=hA3.mono cA.1
   replace a2:=a2.mono cA.1
   replace a4:=a4.mono cA.1
   replace a5:=a5.mono cA.1
   replace a1:=a1.t cA.1
   refine rn 2 6 [(0,pb cb0),(3,pb a0),(18,iv aH.1),(20,iv aM.1),(22,.pointer (some ⟨a0,1,none⟩))] hF fun a hF=>?_
   refine SK.wi (qs 3 2 1 (iv aH.1) hF hS rfl fun w a hF hS=>?_)
   refine qn 2 9 [(24,.pointer (some ⟨a0,2,none⟩))] hF fun a hF=>?_
   refine SK.wi (qs 3 2 2 (iv aM.1) hF hS rfl fun w a hF hS=>wfn rfl ?_)
   have a8:=Frz.le_refl ν653
   refine Dx (fun a w=>∃(aN:Int) (aO:Int) (a7:Int) (aP:Int) (aQ:Int) (aT:Int) (aU:Int) (d9:(List Int)) (ν763:Frz) (cS:Option Addr) (cV:Nat),Fr 155 [] [(0,pb cb0),(3,pb a0)] a∧St w0 (fz w0 ν763::blk cb0 125 #[sv cS d9 cV]::blk a0 41 #[.string aL.1,iv aH.1,iv aM.1,iv aN,iv aO,iv a7,iv aP,iv aQ,iv aT,iv aU,.slice none 0 0]::T_) w∧(ArrM ν763 1 (fK .u8) cS cV d9)∧(ν653.le ν763)∧(μ.ext w0.heap.size ν763)∧(Ax w0 ν763)∧Ej F aL aH aM aN aO a7 aP aQ aT aU d9=some res) ?_ ?_
   ·skip
    refine esr<|qn 12 12 [(26,.pointer (some ⟨a0,3,none⟩)),(28,.pointer (some ⟨a0,4,none⟩)),(30,.pointer (some ⟨a0,5,none⟩)),(32,.pointer (some ⟨a0,6,none⟩)),(34,.pointer (some ⟨a0,7,none⟩)),(35,.pointer (some ⟨a0,8,none⟩)),(36,.pointer (some ⟨a0,9,none⟩))] hF fun a hF=>?_
    refine SK.wi (A1i (e:=164) (sz:=1) (f:=fV) (t:=165) (len:=7) (fun a3=>[(0,pb cb0),(3,pb a0),(37,sb a3 7)]) #[(0,.pointer (some ⟨a0,3,none⟩)),(1,.pointer (some ⟨a0,4,none⟩)),(2,.pointer (some ⟨a0,5,none⟩)),(3,.pointer (some ⟨a0,6,none⟩)),(4,.pointer (some ⟨a0,7,none⟩)),(5,.pointer (some ⟨a0,8,none⟩)),(6,.pointer (some ⟨a0,9,none⟩))] #[.pointer (some ⟨a0,3,none⟩),.pointer (some ⟨a0,4,none⟩),.pointer (some ⟨a0,5,none⟩),.pointer (some ⟨a0,6,none⟩),.pointer (some ⟨a0,7,none⟩),.pointer (some ⟨a0,8,none⟩),.pointer (some ⟨a0,9,none⟩)] ([(.pointer (some ⟨a0,3,none⟩)),(.pointer (some ⟨a0,4,none⟩)),(.pointer (some ⟨a0,5,none⟩)),(.pointer (some ⟨a0,6,none⟩)),(.pointer (some ⟨a0,7,none⟩)),(.pointer (some ⟨a0,8,none⟩)),(.pointer (some ⟨a0,9,none⟩))]:List Value) hF hS kr ⟨kr⟩ kr R0 rfl rfl kr (fun _=>⟨kr⟩) fun a3 w a hF hS=>?_)
    refine rn 2 15 [(0,pb cb0),(3,pb a0),(37,sb a3 7),(38,iv ((7:Nat):Int)),(39,iv 0)] hF fun a hF=>wfn rfl ?_
    refine wpIn_block<|A4l 8 ?_
    refine Pb ?_
    refine qnB [(40,.bool true)] hF fun a hF=>?_
    refine Am<|wpIn_cond_true (hF.get rfl) ?_
    refine wK<|Am<|wpIn_block<|qoB [(5,.pointer (some ⟨a0,3,none⟩))] hF (oX (.run [] (Instr.indexAt 165 (sb a3 7) (iv 0)) (.pointer (some (Bl (some ⟨a3,0,none⟩) 0 1)))) (J0 (i:=0) (hS.arr (i:=0) rfl) kr (u:=.pointer (some ⟨a0,3,none⟩)) (fun _=>rfl))<|oX (.run [] (Instr.loadAt 164 (.pointer (some (Bl (some ⟨a3,0,none⟩) 0 1)))) (.pointer (some ⟨a0,3,none⟩))) (Pf (i:=0) 0 R0 (fun _ hd=>((hS.at_ hd).arr (i:=0) rfl)) kr (fun _=>rfl) rfl)<|A1) fun a hF=>?_
    refine WI.region<|qn 2 2 [(43,.pointer (some ⟨a0,3,none⟩)),(44,pb cb0)] hF fun a hF=>?_
    obtain ⟨kB,hU,h⟩:=A0 h
    replace hS:=hS.s2.s2
    refine Ee (fun eK=>[(0,pb cb0),(3,pb a0),(37,sb a3 7),(38,iv ((7:Nat):Int)),(39,iv 0),(43,.pointer (some ⟨a0,3,none⟩)),(45,eK)]) hF kr ⟨kr⟩ (Ai F _ _ hU ν653 w0 w _ hlow a6 hS) (fun _=>⟨kr⟩) ?_ ?_
    ·rintro jJ w he_ ⟨ν966,fB,g5,bX,hlow,gZ,hS⟩
     replace h:=H0 h he_
     replace hext:=hext.t bX
     replace hA3:=hA3.mono bX.1
     replace a2:=a2.mono bX.1
     replace a4:=a4.mono bX.1
     replace a5:=a5.mono bX.1
     replace a6:=a6.mono bX.1
     replace a1:=a1.t bX.1
     replace a8:=a8.t bX.1
     refine Ah<|A6<|A6<|Ah<|A6<|Ah<|A6<|Az hF ?_
     obtain rfl:=Ae h
     replace hS:=hS.d3.d2
     exact .inr ⟨_,rfl,rfl,ν966,fB,g5,hext,hlow,gZ,hS⟩
    rintro dL eK w a he_ ⟨ν960,iH,iX,bW,hlow,rfl,aC,hS⟩ hF
    replace h:=H3 h he_
    replace hext:=hext.t bW
    replace hA3:=hA3.mono bW.1
    replace a2:=a2.mono bW.1
    replace a4:=a4.mono bW.1
    replace a5:=a5.mono bW.1
    replace a6:=a6.mono bW.1
    replace a1:=a1.t bW.1
    replace a8:=a8.t bW.1
    refine rn 1 4 [(0,pb cb0),(3,pb a0),(37,sb a3 7),(38,iv ((7:Nat):Int)),(39,iv 0),(45,iv dL.1),(46,.pointer (some ⟨a0,3,none⟩))] hF fun a hF=>?_
    refine SK.wi (qs 3 3 3 (iv dL.1) hF hS rfl fun w a hF hS=>WI.fin rfl (A9<|A3<|?_))
    refine WI.region<|ro 2 2 [(0,pb cb0),(3,pb a0),(37,sb a3 7),(38,iv ((7:Nat):Int)),(39,iv 1)] hF (oX (.run [] (binOp .add 3 (iv 0) (iv 1)) (iv 1)) (Bm kr)<|A1) fun a hF=>wfn rfl ?_
    refine Pb ?_
    refine qnB [(40,.bool true)] hF fun a hF=>?_
    refine Am<|wpIn_cond_true (hF.get rfl) ?_
    refine wK<|Am<|wpIn_block<|qoB [(5,.pointer (some ⟨a0,4,none⟩))] hF (oX (.run [] (Instr.indexAt 165 (sb a3 7) (iv 1)) (.pointer (some (Bl (some ⟨a3,0,none⟩) 1 1)))) (J0 (i:=1) (hS.arr (i:=2) rfl) kr (u:=.pointer (some ⟨a0,4,none⟩)) (fun _=>rfl))<|oX (.run [] (Instr.loadAt 164 (.pointer (some (Bl (some ⟨a3,0,none⟩) 1 1)))) (.pointer (some ⟨a0,4,none⟩))) (Pf (i:=1) 0 R0 (fun _ hd=>((hS.at_ hd).arr (i:=2) rfl)) kr (fun _=>rfl) rfl)<|A1) fun a hF=>?_
    refine WI.region<|qn 2 2 [(43,.pointer (some ⟨a0,4,none⟩)),(44,pb cb0)] hF fun a hF=>?_
    obtain ⟨kC,hV,h⟩:=A0 h
    refine Ee (fun eL=>[(0,pb cb0),(3,pb a0),(37,sb a3 7),(38,iv ((7:Nat):Int)),(39,iv 1),(43,.pointer (some ⟨a0,4,none⟩)),(45,eL)]) hF kr ⟨kr⟩ (Ai F _ _ hV ν960 w0 w _ hlow aC hS) (fun _=>⟨kr⟩) ?_ ?_
    ·rintro jK w he_ ⟨ν980,fC,g6,bO,hlow,h0,hS⟩
     replace h:=H0 h he_
     replace hext:=hext.t bO
     replace hA3:=hA3.mono bO.1
     replace a2:=a2.mono bO.1
     replace a4:=a4.mono bO.1
     replace a5:=a5.mono bO.1
     replace a6:=a6.mono bO.1
     replace aC:=aC.mono bO.1
     replace a1:=a1.t bO.1
     replace a8:=a8.t bO.1
     refine Ah<|A6<|A6<|Ah<|A6<|Ah<|A6<|Az hF ?_
     obtain rfl:=Ae h
     replace hS:=hS.d3.d2
     exact .inr ⟨_,rfl,rfl,ν980,fC,g6,hext,hlow,h0,hS⟩
    rintro dM eL w a he_ ⟨ν974,iI,iY,bN,hlow,rfl,aG,hS⟩ hF
    replace h:=H3 h he_
    replace hext:=hext.t bN
    replace hA3:=hA3.mono bN.1
    replace a2:=a2.mono bN.1
    replace a4:=a4.mono bN.1
    replace a5:=a5.mono bN.1
    replace a6:=a6.mono bN.1
    replace aC:=aC.mono bN.1
    replace a1:=a1.t bN.1
    replace a8:=a8.t bN.1
    refine rn 1 4 [(0,pb cb0),(3,pb a0),(37,sb a3 7),(38,iv ((7:Nat):Int)),(39,iv 1),(45,iv dM.1),(46,.pointer (some ⟨a0,4,none⟩))] hF fun a hF=>?_
    refine SK.wi (qs 3 3 4 (iv dM.1) hF hS rfl fun w a hF hS=>WI.fin rfl (A9<|A3<|?_))
    refine WI.region<|ro 2 2 [(0,pb cb0),(3,pb a0),(37,sb a3 7),(38,iv ((7:Nat):Int)),(39,iv 2)] hF (oX (.run [] (binOp .add 3 (iv 1) (iv 1)) (iv 2)) (Bm kr)<|A1) fun a hF=>wfn rfl ?_
    refine Pb ?_
    refine qnB [(40,.bool true)] hF fun a hF=>?_
    refine Am<|wpIn_cond_true (hF.get rfl) ?_
    refine wK<|Am<|wpIn_block<|qoB [(5,.pointer (some ⟨a0,5,none⟩))] hF (oX (.run [] (Instr.indexAt 165 (sb a3 7) (iv 2)) (.pointer (some (Bl (some ⟨a3,0,none⟩) 2 1)))) (J0 (i:=2) (hS.arr (i:=2) rfl) kr (u:=.pointer (some ⟨a0,5,none⟩)) (fun _=>rfl))<|oX (.run [] (Instr.loadAt 164 (.pointer (some (Bl (some ⟨a3,0,none⟩) 2 1)))) (.pointer (some ⟨a0,5,none⟩))) (Pf (i:=2) 0 R0 (fun _ hd=>((hS.at_ hd).arr (i:=2) rfl)) kr (fun _=>rfl) rfl)<|A1) fun a hF=>?_
    refine WI.region<|qn 2 2 [(43,.pointer (some ⟨a0,5,none⟩)),(44,pb cb0)] hF fun a hF=>?_
    obtain ⟨kD,hW,h⟩:=A0 h
    refine Ee (fun eM=>[(0,pb cb0),(3,pb a0),(37,sb a3 7),(38,iv ((7:Nat):Int)),(39,iv 2),(43,.pointer (some ⟨a0,5,none⟩)),(45,eM)]) hF kr ⟨kr⟩ (Ai F _ _ hW ν974 w0 w _ hlow aG hS) (fun _=>⟨kr⟩) ?_ ?_
    ·rintro jL w he_ ⟨ν994,fD,g7,bD,hlow,h1,hS⟩
     replace h:=H0 h he_
     replace hext:=hext.t bD
     replace hA3:=hA3.mono bD.1
     replace a2:=a2.mono bD.1
     replace a4:=a4.mono bD.1
     replace a5:=a5.mono bD.1
     replace a6:=a6.mono bD.1
     replace aC:=aC.mono bD.1
     replace aG:=aG.mono bD.1
     replace a1:=a1.t bD.1
     replace a8:=a8.t bD.1
     refine Ah<|A6<|A6<|Ah<|A6<|Ah<|A6<|Az hF ?_
     obtain rfl:=Ae h
     replace hS:=hS.d3.d2
     exact .inr ⟨_,rfl,rfl,ν994,fD,g7,hext,hlow,h1,hS⟩
    rintro dN eM w a he_ ⟨ν988,iJ,iZ,bC,hlow,rfl,aJ,hS⟩ hF
    replace h:=H3 h he_
    replace hext:=hext.t bC
    replace hA3:=hA3.mono bC.1
    replace a2:=a2.mono bC.1
    replace a4:=a4.mono bC.1
    replace a5:=a5.mono bC.1
    replace a6:=a6.mono bC.1
    replace aC:=aC.mono bC.1
    replace aG:=aG.mono bC.1
    replace a1:=a1.t bC.1
    replace a8:=a8.t bC.1
    refine rn 1 4 [(0,pb cb0),(3,pb a0),(37,sb a3 7),(38,iv ((7:Nat):Int)),(39,iv 2),(45,iv dN.1),(46,.pointer (some ⟨a0,5,none⟩))] hF fun a hF=>?_
    refine SK.wi (qs 3 3 5 (iv dN.1) hF hS rfl fun w a hF hS=>WI.fin rfl (A9<|A3<|?_))
    refine WI.region<|ro 2 2 [(0,pb cb0),(3,pb a0),(37,sb a3 7),(38,iv ((7:Nat):Int)),(39,iv 3)] hF (oX (.run [] (binOp .add 3 (iv 2) (iv 1)) (iv 3)) (Bm kr)<|A1) fun a hF=>wfn rfl ?_
    refine Pb ?_
    refine qnB [(40,.bool true)] hF fun a hF=>?_
    refine Am<|wpIn_cond_true (hF.get rfl) ?_
    refine wK<|Am<|wpIn_block<|qoB [(5,.pointer (some ⟨a0,6,none⟩))] hF (oX (.run [] (Instr.indexAt 165 (sb a3 7) (iv 3)) (.pointer (some (Bl (some ⟨a3,0,none⟩) 3 1)))) (J0 (i:=3) (hS.arr (i:=2) rfl) kr (u:=.pointer (some ⟨a0,6,none⟩)) (fun _=>rfl))<|oX (.run [] (Instr.loadAt 164 (.pointer (some (Bl (some ⟨a3,0,none⟩) 3 1)))) (.pointer (some ⟨a0,6,none⟩))) (Pf (i:=3) 0 R0 (fun _ hd=>((hS.at_ hd).arr (i:=2) rfl)) kr (fun _=>rfl) rfl)<|A1) fun a hF=>?_
    refine WI.region<|qn 2 2 [(43,.pointer (some ⟨a0,6,none⟩)),(44,pb cb0)] hF fun a hF=>?_
    obtain ⟨kE,hX,h⟩:=A0 h
    refine Ee (fun e0=>[(0,pb cb0),(3,pb a0),(37,sb a3 7),(38,iv ((7:Nat):Int)),(39,iv 3),(43,.pointer (some ⟨a0,6,none⟩)),(45,e0)]) hF kr ⟨kr⟩ (Ai F _ _ hX ν988 w0 w _ hlow aJ hS) (fun _=>⟨kr⟩) ?_ ?_
    ·rintro j0 w he_ ⟨ν1008,eN,fE,b6,hlow,g8,hS⟩
     replace h:=H0 h he_
     replace hext:=hext.t b6
     replace hA3:=hA3.mono b6.1
     replace a2:=a2.mono b6.1
     replace a4:=a4.mono b6.1
     replace a5:=a5.mono b6.1
     replace a6:=a6.mono b6.1
     replace aC:=aC.mono b6.1
     replace aG:=aG.mono b6.1
     replace aJ:=aJ.mono b6.1
     replace a1:=a1.t b6.1
     replace a8:=a8.t b6.1
     refine Ah<|A6<|A6<|Ah<|A6<|Ah<|A6<|Az hF ?_
     obtain rfl:=Ae h
     replace hS:=hS.d3.d2
     exact .inr ⟨_,rfl,rfl,ν1008,eN,fE,hext,hlow,g8,hS⟩
    rintro dI e0 w a he_ ⟨ν1002,i4,iK,b5,hlow,rfl,aV,hS⟩ hF
    replace h:=H3 h he_
    replace hext:=hext.t b5
    replace hA3:=hA3.mono b5.1
    replace a2:=a2.mono b5.1
    replace a4:=a4.mono b5.1
    replace a5:=a5.mono b5.1
    replace a6:=a6.mono b5.1
    replace aC:=aC.mono b5.1
    replace aG:=aG.mono b5.1
    replace aJ:=aJ.mono b5.1
    replace a1:=a1.t b5.1
    replace a8:=a8.t b5.1
    refine rn 1 4 [(0,pb cb0),(3,pb a0),(37,sb a3 7),(38,iv ((7:Nat):Int)),(39,iv 3),(45,iv dI.1),(46,.pointer (some ⟨a0,6,none⟩))] hF fun a hF=>?_
    refine SK.wi (qs 3 3 6 (iv dI.1) hF hS rfl fun w a hF hS=>WI.fin rfl (A9<|A3<|?_))
    refine WI.region<|ro 2 2 [(0,pb cb0),(3,pb a0),(37,sb a3 7),(38,iv ((7:Nat):Int)),(39,iv 4)] hF (oX (.run [] (binOp .add 3 (iv 3) (iv 1)) (iv 4)) (Bm kr)<|A1) fun a hF=>wfn rfl ?_
    refine Pb ?_
    refine qnB [(40,.bool true)] hF fun a hF=>?_
    refine Am<|wpIn_cond_true (hF.get rfl) ?_
    refine wK<|Am<|wpIn_block<|qoB [(5,.pointer (some ⟨a0,7,none⟩))] hF (oX (.run [] (Instr.indexAt 165 (sb a3 7) (iv 4)) (.pointer (some (Bl (some ⟨a3,0,none⟩) 4 1)))) (J0 (i:=4) (hS.arr (i:=2) rfl) kr (u:=.pointer (some ⟨a0,7,none⟩)) (fun _=>rfl))<|oX (.run [] (Instr.loadAt 164 (.pointer (some (Bl (some ⟨a3,0,none⟩) 4 1)))) (.pointer (some ⟨a0,7,none⟩))) (Pf (i:=4) 0 R0 (fun _ hd=>((hS.at_ hd).arr (i:=2) rfl)) kr (fun _=>rfl) rfl)<|A1) fun a hF=>?_
    refine WI.region<|qn 2 2 [(43,.pointer (some ⟨a0,7,none⟩)),(44,pb cb0)] hF fun a hF=>?_
    obtain ⟨jO,h7,h⟩:=A0 h
    refine Ee (fun e1=>[(0,pb cb0),(3,pb a0),(37,sb a3 7),(38,iv ((7:Nat):Int)),(39,iv 4),(43,.pointer (some ⟨a0,7,none⟩)),(45,e1)]) hF kr ⟨kr⟩ (Ai F _ _ h7 ν1002 w0 w _ hlow aV hS) (fun _=>⟨kr⟩) ?_ ?_
    ·rintro j1 w he_ ⟨ν1022,eO,fF,b1,hlow,g9,hS⟩
     replace h:=H0 h he_
     replace hext:=hext.t b1
     replace hA3:=hA3.mono b1.1
     replace a2:=a2.mono b1.1
     replace a4:=a4.mono b1.1
     replace a5:=a5.mono b1.1
     replace a6:=a6.mono b1.1
     replace aC:=aC.mono b1.1
     replace aG:=aG.mono b1.1
     replace aJ:=aJ.mono b1.1
     replace aV:=aV.mono b1.1
     replace a1:=a1.t b1.1
     replace a8:=a8.t b1.1
     refine Ah<|A6<|A6<|Ah<|A6<|Ah<|A6<|Az hF ?_
     obtain rfl:=Ae h
     replace hS:=hS.d3.d2
     exact .inr ⟨_,rfl,rfl,ν1022,eO,fF,hext,hlow,g9,hS⟩
    rintro dJ e1 w a he_ ⟨ν1016,i5,iL,b0,hlow,rfl,bH,hS⟩ hF
    replace h:=H3 h he_
    replace hext:=hext.t b0
    replace hA3:=hA3.mono b0.1
    replace a2:=a2.mono b0.1
    replace a4:=a4.mono b0.1
    replace a5:=a5.mono b0.1
    replace a6:=a6.mono b0.1
    replace aC:=aC.mono b0.1
    replace aG:=aG.mono b0.1
    replace aJ:=aJ.mono b0.1
    replace aV:=aV.mono b0.1
    replace a1:=a1.t b0.1
    replace a8:=a8.t b0.1
    refine rn 1 4 [(0,pb cb0),(3,pb a0),(37,sb a3 7),(38,iv ((7:Nat):Int)),(39,iv 4),(45,iv dJ.1),(46,.pointer (some ⟨a0,7,none⟩))] hF fun a hF=>?_
    refine SK.wi (qs 3 3 7 (iv dJ.1) hF hS rfl fun w a hF hS=>WI.fin rfl (A9<|A3<|?_))
    refine WI.region<|ro 2 2 [(0,pb cb0),(3,pb a0),(37,sb a3 7),(38,iv ((7:Nat):Int)),(39,iv 5)] hF (oX (.run [] (binOp .add 3 (iv 4) (iv 1)) (iv 5)) (Bm kr)<|A1) fun a hF=>wfn rfl ?_
    refine Pb ?_
    refine qnB [(40,.bool true)] hF fun a hF=>?_
    refine Am<|wpIn_cond_true (hF.get rfl) ?_
    refine wK<|Am<|wpIn_block<|qoB [(5,.pointer (some ⟨a0,8,none⟩))] hF (oX (.run [] (Instr.indexAt 165 (sb a3 7) (iv 5)) (.pointer (some (Bl (some ⟨a3,0,none⟩) 5 1)))) (J0 (i:=5) (hS.arr (i:=2) rfl) kr (u:=.pointer (some ⟨a0,8,none⟩)) (fun _=>rfl))<|oX (.run [] (Instr.loadAt 164 (.pointer (some (Bl (some ⟨a3,0,none⟩) 5 1)))) (.pointer (some ⟨a0,8,none⟩))) (Pf (i:=5) 0 R0 (fun _ hd=>((hS.at_ hd).arr (i:=2) rfl)) kr (fun _=>rfl) rfl)<|A1) fun a hF=>?_
    refine WI.region<|qn 2 2 [(43,.pointer (some ⟨a0,8,none⟩)),(44,pb cb0)] hF fun a hF=>?_
    obtain ⟨jP,h8,h⟩:=A0 h
    refine Ee (fun e2=>[(0,pb cb0),(3,pb a0),(37,sb a3 7),(38,iv ((7:Nat):Int)),(39,iv 5),(43,.pointer (some ⟨a0,8,none⟩)),(45,e2)]) hF kr ⟨kr⟩ (Ai F _ _ h8 ν1016 w0 w _ hlow bH hS) (fun _=>⟨kr⟩) ?_ ?_
    ·rintro j2 w he_ ⟨ν1036,eP,fG,aY,hlow,gA,hS⟩
     replace h:=H0 h he_
     replace hext:=hext.t aY
     replace hA3:=hA3.mono aY.1
     replace a2:=a2.mono aY.1
     replace a4:=a4.mono aY.1
     replace a5:=a5.mono aY.1
     replace a6:=a6.mono aY.1
     replace aC:=aC.mono aY.1
     replace aG:=aG.mono aY.1
     replace aJ:=aJ.mono aY.1
     replace aV:=aV.mono aY.1
     replace bH:=bH.mono aY.1
     replace a1:=a1.t aY.1
     replace a8:=a8.t aY.1
     refine Ah<|A6<|A6<|Ah<|A6<|Ah<|A6<|Az hF ?_
     obtain rfl:=Ae h
     replace hS:=hS.d3.d2
     exact .inr ⟨_,rfl,rfl,ν1036,eP,fG,hext,hlow,gA,hS⟩
    rintro dK e2 w a he_ ⟨ν1030,i6,iM,aX,hlow,rfl,cH,hS⟩ hF
    replace h:=H3 h he_
    replace hext:=hext.t aX
    replace hA3:=hA3.mono aX.1
    replace a2:=a2.mono aX.1
    replace a4:=a4.mono aX.1
    replace a5:=a5.mono aX.1
    replace a6:=a6.mono aX.1
    replace aC:=aC.mono aX.1
    replace aG:=aG.mono aX.1
    replace aJ:=aJ.mono aX.1
    replace aV:=aV.mono aX.1
    replace bH:=bH.mono aX.1
    replace a1:=a1.t aX.1
    replace a8:=a8.t aX.1
    refine rn 1 4 [(0,pb cb0),(3,pb a0),(37,sb a3 7),(38,iv ((7:Nat):Int)),(39,iv 5),(45,iv dK.1),(46,.pointer (some ⟨a0,8,none⟩))] hF fun a hF=>?_
    refine SK.wi (qs 3 3 8 (iv dK.1) hF hS rfl fun w a hF hS=>WI.fin rfl (A9<|A3<|?_))
    refine WI.region<|ro 2 2 [(0,pb cb0),(3,pb a0),(37,sb a3 7),(38,iv ((7:Nat):Int)),(39,iv 6)] hF (oX (.run [] (binOp .add 3 (iv 5) (iv 1)) (iv 6)) (Bm kr)<|A1) fun a hF=>wfn rfl ?_
    refine Pb ?_
    refine qnB [(40,.bool true)] hF fun a hF=>?_
    refine Am<|wpIn_cond_true (hF.get rfl) ?_
    refine wK<|Am<|wpIn_block<|qoB [(5,.pointer (some ⟨a0,9,none⟩))] hF (oX (.run [] (Instr.indexAt 165 (sb a3 7) (iv 6)) (.pointer (some (Bl (some ⟨a3,0,none⟩) 6 1)))) (J0 (i:=6) (hS.arr (i:=2) rfl) kr (u:=.pointer (some ⟨a0,9,none⟩)) (fun _=>rfl))<|oX (.run [] (Instr.loadAt 164 (.pointer (some (Bl (some ⟨a3,0,none⟩) 6 1)))) (.pointer (some ⟨a0,9,none⟩))) (Pf (i:=6) 0 R0 (fun _ hd=>((hS.at_ hd).arr (i:=2) rfl)) kr (fun _=>rfl) rfl)<|A1) fun a hF=>?_
    refine WI.region<|qn 2 2 [(43,.pointer (some ⟨a0,9,none⟩)),(44,pb cb0)] hF fun a hF=>?_
    obtain ⟨jQ,h9,h⟩:=A0 h
    refine Ee (fun e3=>[(0,pb cb0),(3,pb a0),(37,sb a3 7),(38,iv ((7:Nat):Int)),(39,iv 6),(43,.pointer (some ⟨a0,9,none⟩)),(45,e3)]) hF kr ⟨kr⟩ (Ai F _ _ h9 ν1030 w0 w _ hlow cH hS) (fun _=>⟨kr⟩) ?_ ?_
    ·rintro j3 w he_ ⟨ν1050,eR,fI,aS,hlow,gC,hS⟩
     replace h:=H0 h he_
     replace hext:=hext.t aS
     replace hA3:=hA3.mono aS.1
     replace a2:=a2.mono aS.1
     replace a4:=a4.mono aS.1
     replace a5:=a5.mono aS.1
     replace a6:=a6.mono aS.1
     replace aC:=aC.mono aS.1
     replace aG:=aG.mono aS.1
     replace aJ:=aJ.mono aS.1
     replace aV:=aV.mono aS.1
     replace bH:=bH.mono aS.1
     replace cH:=cH.mono aS.1
     replace a1:=a1.t aS.1
     replace a8:=a8.t aS.1
     refine Ah<|A6<|A6<|Ah<|A6<|Ah<|A6<|Az hF ?_
     obtain rfl:=Ae h
     replace hS:=hS.d3.d2
     exact .inr ⟨_,rfl,rfl,ν1050,eR,fI,hext,hlow,gC,hS⟩
    rintro dB e3 w a he_ ⟨ν1044,eQ,fH,aR,hlow,rfl,gB,hS⟩ hF
    replace h:=H3 h he_
    replace hext:=hext.t aR
    replace hA3:=hA3.mono aR.1
    replace a2:=a2.mono aR.1
    replace a4:=a4.mono aR.1
    replace a5:=a5.mono aR.1
    replace a6:=a6.mono aR.1
    replace aC:=aC.mono aR.1
    replace aG:=aG.mono aR.1
    replace aJ:=aJ.mono aR.1
    replace aV:=aV.mono aR.1
    replace bH:=bH.mono aR.1
    replace cH:=cH.mono aR.1
    replace a1:=a1.t aR.1
    replace a8:=a8.t aR.1
    refine rn 1 4 [(0,pb cb0),(3,pb a0),(37,sb a3 7),(38,iv ((7:Nat):Int)),(39,iv 6),(45,iv dB.1),(46,.pointer (some ⟨a0,9,none⟩))] hF fun a hF=>?_
    refine SK.wi (qs 3 3 9 (iv dB.1) hF hS rfl fun w a hF hS=>WI.fin rfl (A9<|A3<|?_))
    refine WI.region<|ro 2 2 [(0,pb cb0),(3,pb a0),(37,sb a3 7),(38,iv ((7:Nat):Int)),(39,iv 7)] hF (oX (.run [] (binOp .add 3 (iv 6) (iv 1)) (iv 7)) (Bm kr)<|A1) fun a hF=>wfn rfl ?_
    refine Pb ?_
    refine qnB [(40,.bool false)] hF fun a hF=>?_
    refine Am<|wpIn_cond_false (hF.get rfl) ?_
    refine wpIn_exit (A5<|A5<|Ar<|A3 ?_)
    exact ⟨dL.1,dM.1,dN.1,dI.1,dJ.1,dK.1,dB.1,dB.2.b,ν1044,eQ,fH,hF.sub kr,hS.d2,gB,a8,hext,hlow,h⟩
   clear a8
   rintro a w ⟨aN,aO,a7,aP,aQ,aT,aU,d9,ν763,cS,cV,hF,hS,bT,aZ,hext,hlow,h⟩
   replace hA3:=hA3.mono aZ
   replace a2:=a2.mono aZ
   replace a4:=a4.mono aZ
   replace a5:=a5.mono aZ
   replace a6:=a6.mono aZ
   replace a1:=a1.t aZ
   rw [Ej] at h
   refine esr ?_
   obtain ⟨i3,hQ,h⟩:=A0 h
   refine qx 3 3 [(50,iv i3)] hF (oN 38 2 0 8 hS.e rfl<|oC (fun w2 hd=>Pa F (api_Site.mk aL.1 aH.1 aM.1 aN aO a7 aP aQ) _ hQ _ w2 (A4 w2))<|A1) fun a w hF hx=>?_
   replace hS:=hS.later hx
   obtain ⟨k8,hR,h⟩:=A0 h
   refine A0z (fun i0=>[(0,pb cb0),(3,pb a0)]) hF kr ⟨kr⟩ (P4 F _ _ hR (B0 w) w (A4 w)) (fun _=>⟨kr⟩) ?_ ?_
   ·intro v_ w he_ hx
    replace hS:=hS.later hx
    replace h:=H0 h he_
    refine A6<|Ah<|A6<|Az hF ?_
    obtain rfl:=Ae h
    replace hS:=hS.d2
    exact .inr ⟨_,rfl,rfl,ν763,cS,cV,hext,hlow,bT,hS⟩
   rintro k9 i0 w a he_ ⟨rfl,hx⟩ hF
   replace h:=H3 h he_
   replace hS:=hS.later hx
   refine wfn rfl ?_
   refine esr ?_
   obtain ⟨jN,h5,h⟩:=A0 h
   obtain ⟨i2,h6,h⟩:=A0 h
   refine ro 12 12 [(3,pb a0),(52,pb cb0),(60,iv i2),(61,.agg #[iv 1,iv 0,iv 0,iv 0,iv 0,iv 0,iv 0,iv 0,iv 0,iv 0,iv 0,iv 0,iv 0,iv 0]),(63,.func (.func 95) #[pb cb0] #[])] hF (oL 3 2 4 hS.i rfl rfl<|oM 3 h5<|oL 3 2 5 hS.i rfl rfl<|oM 3 h6<|A1) fun a hF=>?_
   obtain ⟨kA,hT,h⟩:=A0 h
   refine Ee (fun eJ=>[(3,pb a0),(64,eJ)]) hF kr ⟨kr⟩ (Lk F _ _ _ _ hT ν763 w0 w _ hlow bT hS) (fun _=>⟨kr⟩) ?_ ?_
   ·rintro jI w he_ ⟨ν794,fA,g4,bM,hlow,gV,hS⟩
    replace h:=H0 h he_
    replace hext:=hext.t bM
    replace hA3:=hA3.mono bM.1
    replace a2:=a2.mono bM.1
    replace a4:=a4.mono bM.1
    replace a5:=a5.mono bM.1
    replace a6:=a6.mono bM.1
    replace bT:=bT.mono bM.1
    replace a1:=a1.t bM.1
    replace aZ:=aZ.t bM.1
    refine A6<|Ah<|A6<|Az hF ?_
    obtain rfl:=Ae h
    replace hS:=hS.d2
    exact .inr ⟨_,rfl,rfl,ν794,fA,g4,hext,hlow,gV,hS⟩
   rintro bP eJ w a he_ ⟨ν785,dQ,dU,cT,cW,bL,hlow,rfl,dD,dE,hS⟩ hF
   replace h:=H3 h he_
   replace hext:=hext.t bL
   replace hA3:=hA3.mono bL.1
   replace a2:=a2.mono bL.1
   replace a4:=a4.mono bL.1
   replace a5:=a5.mono bL.1
   replace a6:=a6.mono bL.1
   replace bT:=bT.mono bL.1
   replace a1:=a1.t bL.1
   replace aZ:=aZ.t bL.1
   refine rn 1 14 [(3,pb a0),(6,sv dQ bP.1 dU)] hF fun a hF=>wfn rfl ?_
   refine Dx (fun a w=>∃(bE:(List (List api_Echo))) (c0:Option Addr) (c1:Nat) (cX:List (List Value)),Fr 155 [] [(3,pb a0)] a∧St w0 (arr 87 1 (fN 1) c0 bE.length c1 cX::fz w0 ν785::blk cb0 125 #[sv cT bP.2.b cW]::blk a0 41 #[.string aL.1,iv aH.1,iv aM.1,iv aN,iv aO,iv a7,iv aP,iv aQ,iv aT,iv aU,sv c0 bE c1]::T_) w∧(All2 (Rp87 ν785) cX bE)∧Ek aL aH aM aN aO a7 aP aQ aT aU bP bE=some res) ?_ ?_
   ·skip
    refine wpIn_block ?_
    replace hS:=hS.nilarr 87 1 (fN 1)
    refine Ck (fun n_ a w=>∃(b3:(List (List api_Echo))) (b9:(List api_Echo)) (bQ:Option Addr) (bR:Nat) (bS:List (List Value)) (aE:Option Addr) (aK:Nat),Fr 155 [] [(3,pb a0),(6,sv aE b9 aK)] a∧St w0 (arr 87 1 (fN 1) bQ b3.length bR bS::fz w0 ν785::blk cb0 125 #[sv cT bP.2.b cW]::blk a0 41 #[.string aL.1,iv aH.1,iv aM.1,iv aN,iv aO,iv a7,iv aP,iv aQ,iv aT,iv aU,sv bQ b3 bR]::T_) w∧(All2 (Rp87 ν785) bS b3)∧(ArrM ν785 14 api_Echo.cells aE aK b9)∧Cr aL aH aM aN aO a7 aP aQ aT aU bP n_ b3 b9=some res) F ⟨[],bP.1,none,0,[],dQ,dU,hF.sub kr,hS,All2.nil,dD,h⟩ ?_
    rintro nk4 a w ⟨b3,b9,bQ,bR,bS,aE,aK,hF,hS,dY,cY,h⟩
    rcases nk4 with _|nk4
    ·cases (show (none:Option (Except (Value×volume_reader) (volume_thing×volume_reader)))=some res from h)
    obtain ⟨k4,hk4⟩:∃k,k=Cr aL aH aM aN aO a7 aP aQ aT aU bP nk4:=⟨_,rfl⟩
    replace h:Ft aL aH aM aN aO a7 aP aQ aT aU bP k4 b3 b9=some res:=by rw [hk4];exact h
    rw [Ft] at h
    refine Am<|qnB [(67,.bool (decide ((ln b9)>0)))] hF fun a hF=>?_
    refine A8 hF h (fun hc h=>?_) fun hc h=>?_
    ·refine wK<|Am<|wpIn_block ?_
     obtain ⟨aD,dV,h⟩:=A0 h
     refine Bq 11 [10] _ (D:=fun w=>St w0 [arr 87 1 (fN 1) bQ b3.length bR bS,blk cb0 125 #[sv cT bP.2.b cW],blk a0 41 #[.string aL.1,iv aH.1,iv aM.1,iv aN,iv aO,iv a7,iv aP,iv aQ,iv aT,iv aU,sv bQ b3 bR]] w∧FrzAt ν785 w) kr kr hF.size (fun w hx=>?_) (fun _ _ h=>h)
     replace hS:=hS.later hx
     refine ⟨⟨St.pick [0,2,3] (by decide) hS,hS.frz (i:=1) rfl hlow⟩,?_⟩
     have jM:=Frz.le_refl ν785
     have gX:ArrM ν785 14 api_Echo.cells (Al aE a7.toNat (0:Int).toNat 14) aD.length aD:=fun w_ hw_=>(cY w_ hw_).cutMD api_Echo.cells_len dV
     refine WT.s [0,1,2,3,4,5,6,7,8,9] [10] kr kr ?_
     refine qC 10 [(74,sv bQ b3 bR),(82,.slice (Al aE a7.toNat (0:Int).toNat 14) aD.length aD.length)] hF (oL 39 2 10 (fun _ hd=>hd.1) rfl rfl<|oL 3 2 5 (fun _ hd=>hd.1) rfl rfl<|oL 3 2 5 (fun _ hd=>hd.1) rfl rfl<|oX (.run [] (Instr.sliceAt 87 (sv aE b9 aK) none (some (iv a7)) (some (iv a7))) (.slice (Al aE a7.toNat (0:Int).toNat 14) aD.length aD.length)) (A36 kr (cY _ (hS.frz (i:=1) rfl hlow)) (fun _=>dV))<|A1) fun a hF=>?_
     refine WRun.fin ?_
     refine all_cons ?_ (Aq)
     have dZ:All2 (Rp87 ν785) ([[.slice (Al aE a7.toNat (0:Int).toNat 14) aD.length aD.length]]:List (List Value)) [aD]:=(All2.cons ⟨(Al aE a7.toNat (0:Int).toNat 14),aD.length,rfl,gX⟩ All2.nil)
     refine Qn (e:=87) (sz:=1) (f:=fN 1) (t:=39) (len:=1) (fun dR=>[(3,pb a0),(6,sv aE b9 aK),(74,sv bQ b3 bR),(83,sb dR 1)]) #[(0,.slice (Al aE a7.toNat (0:Int).toNat 14) aD.length aD.length)] #[.slice (Al aE a7.toNat (0:Int).toNat 14) aD.length aD.length] ([[.slice (Al aE a7.toNat (0:Int).toNat 14) aD.length aD.length]]:List (List Value)) ([aD]) hF hS kr ⟨kr⟩ kr (Dg 1) rfl rfl rfl kr (fun _=>⟨kr⟩) fun dR w a hF hS=>⟨⟨St.pick [1,3,4] (by decide) hS,(hS.frz (i:=2) rfl hlow)⟩,?_⟩
     refine WT.z [] kr ?_
     refine WRun.fin ?_
     obtain ⟨cP,dW,h⟩:=A0 h
     have h3:All2 (Rp87 ν785) (bS++([[.slice (Al aE a7.toNat (0:Int).toNat 14) aD.length aD.length]]:List (List Value))) cP:=by rw [(Mh dW).1];exact All2.app dY dZ
     refine SK.wi (Xc (t:=39) (ty:=39) (bytes:=24) (c:=bS) (c':=([[.slice (Al aE a7.toNat (0:Int).toNat 14) aD.length aD.length]]:List (List Value))) (l:=b3) (l':=([aD])) (fun cF cG=>[(3,pb a0),(6,sv aE b9 aK),(84,sv cF cP cG)]) 1 hF hS rfl kr ⟨kr⟩ kr (hS.arr (i:=0) rfl) (ArrQ.one dZ Rp87.one) dW (fun _ _=>⟨kr⟩) fun cF cG w a hF hS=>?_)
     refine rn 1 13 [(3,pb a0),(6,sv aE b9 aK),(84,sv cF cP cG),(85,.pointer (some ⟨a0,10,none⟩))] hF fun a hF=>?_
     refine SK.wi (qs 39 4 10 (sv cF cP cG) hF hS rfl fun w a hF hS=>WI.fin rfl (A9<|A3<|?_))
     refine WI.region ?_
     obtain ⟨dA,dX,h⟩:=A0 h
     have gY:ArrM ν785 14 api_Echo.cells (Al aE aK a7.toNat 14) (aK-a7.toNat) dA:=fun w_ hw_=>(cY w_ hw_).cutD api_Echo.cells_len dX
     refine ro 6 6 [(3,pb a0),(6,.slice (Al aE aK a7.toNat 14) dA.length (aK-a7.toNat))] hF (oL 3 4 5 hS.i rfl rfl<|oX (.run [] (Instr.sliceAt 87 (sv aE b9 aK) (some (iv a7)) none none) (.slice (Al aE aK a7.toNat 14) dA.length (aK-a7.toNat))) (Lv kr (cY _ (hS.frz (i:=2) rfl hlow)) (fun _=>dX))<|A1) fun a hF=>wfn rfl ?_
     rw [hk4] at h
     exact ⟨nk4,Nat.lt_succ_self _,cP,dA,cF,cG,(bS++([[.slice (Al aE a7.toNat (0:Int).toNat 14) aD.length aD.length]]:List (List Value))),(Al aE aK a7.toNat 14),(aK-a7.toNat),hF.sub kr,hS.d0,h3,gY,h⟩
    ·refine wpIn_exit (A5<|A5<|Ar<|A3 ?_)
     exact ⟨b3,bQ,bR,bS,hF.sub kr,hS,dY,h⟩
   rintro a w ⟨bE,c0,c1,cX,hF,hS,dF,h⟩
   rw [Ek] at h
   refine roB [(2,.iface 156 (.agg #[.string aL.1,iv aH.1,iv aM.1,iv aN,iv aO,iv a7,iv aP,iv aQ,iv aT,iv aU,sv c0 bE c1]))] hF (oN 41 3 0 11 hS.i rfl<|A1) fun a hF=>?_
   refine wpIn_ret (Ab<|A2<|A7 [.tmp 2] [_] hF rfl ⟨rfl,trivial⟩ ?_)
   obtain ⟨ν877,b2,hlow,hS,hY⟩:=hS.freeze (i:=1) (j:=0) rfl rfl (by decide) hlow
   replace hA3:=hA3.mono b2.1
   replace a2:=a2.mono b2.1
   replace a4:=a4.mono b2.1
   replace a5:=a5.mono b2.1
   replace a6:=a6.mono b2.1
   replace bT:=bT.mono b2.1
   replace dD:=dD.mono b2.1
   replace dE:=dE.mono b2.1
   replace dF:=All2.mono Rp87.mono b2.1 dF
   replace a1:=a1.t b2.1
   replace aZ:=aZ.t b2.1
   replace hext:=hext.t b2
   have gW:=ArrQ.of_arr (l:=bE) hY dF Rp87.mono (Frz.le_refl _)
   obtain rfl:=Ae h
   replace hS:=hS.d2
   exact .inl ⟨_,_,rfl,rfl,ν877,(.iface 156 (.agg #[.string aL.1,iv aH.1,iv aM.1,iv aN,iv aO,iv a7,iv aP,iv aQ,iv aT,iv aU,sv c0 bE c1])),cT,cW,hext,hlow,rfl,(show volume_thing.R _ _ (.ic156 (volume_sweep.mk (api_Sweep.mk (api_Site.mk aL.1 aH.1 aM.1 aN aO a7 aP aQ) aT aU bE))) from ⟨[.string aL.1,iv aH.1,iv aM.1,iv aN,iv aO,iv a7,iv aP,iv aQ,iv aT,iv aU,sv c0 bE c1],rfl,⟨c0,c1,cX,rfl,gW⟩⟩),dE,hS⟩
  ·refine qnB [(89,.bool (cQ.1==2))] hF fun a hF=>?_
   refine A8 hF h (fun hc h=>?_) fun hc h=>?_
   ·refine esr<|SK.wi (qA 158 A73 (fun aA=>[(7,pb aA)]) hF hS fun aA w a hF hS=>wfn rfl ?_)
    refine esr<|qn 1 1 [(91,pb cb0)] hF fun a hF=>?_
    obtain ⟨jR,hA,h⟩:=A0 h
    replace hS:=hS.s2.s2
    refine Ee (fun e4=>[(0,pb cb0),(7,pb aA),(92,e4)]) hF kr ⟨kr⟩ (J2 F _ _ hA ν610 w0 w _ hlow a2 hS) (fun _=>⟨kr⟩) ?_ ?_
    ·rintro j4 w he_ ⟨ν1065,eS,fJ,d1,hlow,gD,hS⟩
     replace h:=H0 h he_
     replace hext:=hext.t d1
     replace hA3:=hA3.mono d1.1
     replace a2:=a2.mono d1.1
     replace a1:=a1.t d1.1
     refine A6<|Ah<|A6<|Az hF ?_
     obtain rfl:=Ae h
     replace hS:=hS.d2
     exact .inr ⟨_,rfl,rfl,ν1065,eS,fJ,hext,hlow,gD,hS⟩
    rintro cC e4 w a he_ ⟨ν1059,i7,iN,cZ,hlow,rfl,a9,hS⟩ hF
    replace h:=H3 h he_
    replace hext:=hext.t cZ
    replace hA3:=hA3.mono cZ.1
    replace a2:=a2.mono cZ.1
    replace a1:=a1.t cZ.1
    refine rn 1 3 [(0,pb cb0),(7,pb aA),(92,.string cC.1),(93,pb aA)] hF fun a hF=>?_
    refine SK.wi (qs 9 2 0 (.string cC.1) hF hS rfl fun w a hF hS=>wfn rfl ?_)
    refine esr<|qn 1 1 [(94,pb cb0)] hF fun a hF=>?_
    obtain ⟨jS,hB,h⟩:=A0 h
    refine Ee (fun e5=>[(0,pb cb0),(7,pb aA),(95,e5)]) hF kr ⟨kr⟩ (Ai F _ _ hB ν1059 w0 w _ hlow a9 hS) (fun _=>⟨kr⟩) ?_ ?_
    ·rintro j5 w he_ ⟨ν1079,eT,fL,cK,hlow,gE,hS⟩
     replace h:=H0 h he_
     replace hext:=hext.t cK
     replace hA3:=hA3.mono cK.1
     replace a2:=a2.mono cK.1
     replace a9:=a9.mono cK.1
     replace a1:=a1.t cK.1
     refine A6<|Ah<|A6<|Az hF ?_
     obtain rfl:=Ae h
     replace hS:=hS.d2
     exact .inr ⟨_,rfl,rfl,ν1079,eT,fL,hext,hlow,gE,hS⟩
    rintro cD e5 w a he_ ⟨ν1073,i8,iO,cJ,hlow,rfl,aB,hS⟩ hF
    replace h:=H3 h he_
    replace hext:=hext.t cJ
    replace hA3:=hA3.mono cJ.1
    replace a2:=a2.mono cJ.1
    replace a9:=a9.mono cJ.1
    replace a1:=a1.t cJ.1
    refine rn 1 3 [(0,pb cb0),(7,pb aA),(95,iv cD.1),(96,.pointer (some ⟨aA,1,none⟩))] hF fun a hF=>?_
    refine SK.wi (qs 3 2 1 (iv cD.1) hF hS rfl fun w a hF hS=>wfn rfl ?_)
    refine esr<|qn 1 1 [(97,pb cb0)] hF fun a hF=>?_
    obtain ⟨jT,hC,h⟩:=A0 h
    refine Ee (fun e6=>[(0,pb cb0),(7,pb aA),(98,e6)]) hF kr ⟨kr⟩ (E2 F _ _ hC ν1073 w0 w _ hlow aB hS) (fun _=>⟨kr⟩) ?_ ?_
    ·rintro j6 w he_ ⟨ν1093,eU,fM,c9,hlow,gF,hS⟩
     replace h:=H0 h he_
     replace hext:=hext.t c9
     replace hA3:=hA3.mono c9.1
     replace a2:=a2.mono c9.1
     replace a9:=a9.mono c9.1
     replace aB:=aB.mono c9.1
     replace a1:=a1.t c9.1
     refine A6<|Ah<|A6<|Az hF ?_
     obtain rfl:=Ae h
     replace hS:=hS.d2
     exact .inr ⟨_,rfl,rfl,ν1093,eU,fM,hext,hlow,gF,hS⟩
    rintro bF e6 w a he_ ⟨ν1087,i9,iP,c8,hlow,rfl,aF,hS⟩ hF
    replace h:=H3 h he_
    replace hext:=hext.t c8
    replace hA3:=hA3.mono c8.1
    replace a2:=a2.mono c8.1
    replace a9:=a9.mono c8.1
    replace aB:=aB.mono c8.1
    replace a1:=a1.t c8.1
    refine rn 1 3 [(0,pb cb0),(7,pb aA),(98,iv bF.1),(99,pb cb0)] hF fun a hF=>?_
    obtain ⟨jU,hD,h⟩:=A0 h
    refine Ee (fun e7=>[(0,pb cb0),(7,pb aA),(98,iv bF.1),(100,e7)]) hF kr ⟨kr⟩ (E2 F _ _ hD ν1087 w0 w _ hlow aF hS) (fun _=>⟨kr⟩) ?_ ?_
    ·rintro j7 w he_ ⟨ν1107,eV,fO,c3,hlow,gG,hS⟩
     replace h:=H0 h he_
     replace hext:=hext.t c3
     replace hA3:=hA3.mono c3.1
     replace a2:=a2.mono c3.1
     replace a9:=a9.mono c3.1
     replace aB:=aB.mono c3.1
     replace aF:=aF.mono c3.1
     replace a1:=a1.t c3.1
     refine A6<|Ah<|A6<|Az hF ?_
     obtain rfl:=Ae h
     replace hS:=hS.d2
     exact .inr ⟨_,rfl,rfl,ν1107,eV,fO,hext,hlow,gG,hS⟩
    rintro bY e7 w a he_ ⟨ν1101,iA,iQ,c2,hlow,rfl,aI,hS⟩ hF
    replace h:=H3 h he_
    replace hext:=hext.t c2
    replace hA3:=hA3.mono c2.1
    replace a2:=a2.mono c2.1
    replace a9:=a9.mono c2.1
    replace aB:=aB.mono c2.1
    replace aF:=aF.mono c2.1
    replace a1:=a1.t c2.1
    refine rn 3 7 [(0,pb cb0),(7,pb aA),(98,iv bF.1),(100,iv bY.1),(103,.pointer (some ⟨aA,2,none⟩))] hF fun a hF=>?_
    refine SK.wi (qs 3 2 2 (iv bF.1) hF hS rfl fun w a hF hS=>?_)
    refine qn 3 11 [(106,.pointer (some ⟨aA,3,none⟩))] hF fun a hF=>?_
    refine SK.wi (qs 3 2 3 (iv bY.1) hF hS rfl fun w a hF hS=>wfn rfl ?_)
    refine esr<|qn 1 1 [(107,pb cb0)] hF fun a hF=>?_
    obtain ⟨jV,hE,h⟩:=A0 h
    refine Ee (fun e8=>[(0,pb cb0),(7,pb aA),(108,e8)]) hF kr ⟨kr⟩ (Ai F _ _ hE ν1101 w0 w _ hlow aI hS) (fun _=>⟨kr⟩) ?_ ?_
    ·rintro j8 w he_ ⟨ν1121,eW,fP,bV,hlow,gH,hS⟩
     replace h:=H0 h he_
     replace hext:=hext.t bV
     replace hA3:=hA3.mono bV.1
     replace a2:=a2.mono bV.1
     replace a9:=a9.mono bV.1
     replace aB:=aB.mono bV.1
     replace aF:=aF.mono bV.1
     replace aI:=aI.mono bV.1
     replace a1:=a1.t bV.1
     refine A6<|Ah<|A6<|Az hF ?_
     obtain rfl:=Ae h
     replace hS:=hS.d2
     exact .inr ⟨_,rfl,rfl,ν1121,eW,fP,hext,hlow,gH,hS⟩
    rintro b4 e8 w a he_ ⟨ν1115,iB,iR,bU,hlow,rfl,aW,hS⟩ hF
    replace h:=H3 h he_
    replace hext:=hext.t bU
    replace hA3:=hA3.mono bU.1
    replace a2:=a2.mono bU.1
    replace a9:=a9.mono bU.1
    replace aB:=aB.mono bU.1
    replace aF:=aF.mono bU.1
    replace aI:=aI.mono bU.1
    replace a1:=a1.t bU.1
    refine rn 1 3 [(0,pb cb0),(7,pb aA),(108,iv b4.1),(109,pb cb0)] hF fun a hF=>?_
    obtain ⟨jW,hG,h⟩:=A0 h
    refine Ee (fun e9=>[(0,pb cb0),(7,pb aA),(108,iv b4.1),(110,e9)]) hF kr ⟨kr⟩ (Ai F _ _ hG ν1115 w0 w _ hlow aW hS) (fun _=>⟨kr⟩) ?_ ?_
    ·rintro j9 w he_ ⟨ν1135,eX,fQ,bK,hlow,gI,hS⟩
     replace h:=H0 h he_
     replace hext:=hext.t bK
     replace hA3:=hA3.mono bK.1
     replace a2:=a2.mono bK.1
     replace a9:=a9.mono bK.1
     replace aB:=aB.mono bK.1
     replace aF:=aF.mono bK.1
     replace aI:=aI.mono bK.1
     replace aW:=aW.mono bK.1
     replace a1:=a1.t bK.1
     refine A6<|Ah<|A6<|Az hF ?_
     obtain rfl:=Ae h
     replace hS:=hS.d2
     exact .inr ⟨_,rfl,rfl,ν1135,eX,fQ,hext,hlow,gI,hS⟩
    rintro bG e9 w a he_ ⟨ν1129,iC,iS,bJ,hlow,rfl,bI,hS⟩ hF
    replace h:=H3 h he_
    replace hext:=hext.t bJ
    replace hA3:=hA3.mono bJ.1
    replace a2:=a2.mono bJ.1
    replace a9:=a9.mono bJ.1
    replace aB:=aB.mono bJ.1
    replace aF:=aF.mono bJ.1
    replace aI:=aI.mono bJ.1
    replace aW:=aW.mono bJ.1
    replace a1:=a1.t bJ.1
    refine rn 1 5 [(0,pb cb0),(7,pb aA),(108,iv b4.1),(110,iv bG.1),(111,pb cb0)] hF fun a hF=>?_
    obtain ⟨jX,hH,h⟩:=A0 h
    refine Ee (fun eA=>[(0,pb cb0),(7,pb aA),(108,iv b4.1),(110,iv bG.1),(112,eA)]) hF kr ⟨kr⟩ (Ai F _ _ hH ν1129 w0 w _ hlow bI hS) (fun _=>⟨kr⟩) ?_ ?_
    ·rintro jA w he_ ⟨ν1149,eZ,fS,bB,hlow,gJ,hS⟩
     replace h:=H0 h he_
     replace hext:=hext.t bB
     replace hA3:=hA3.mono bB.1
     replace a2:=a2.mono bB.1
     replace a9:=a9.mono bB.1
     replace aB:=aB.mono bB.1
     replace aF:=aF.mono bB.1
     replace aI:=aI.mono bB.1
     replace aW:=aW.mono bB.1
     replace bI:=bI.mono bB.1
     replace a1:=a1.t bB.1
     refine A6<|Ah<|A6<|Az hF ?_
     obtain rfl:=Ae h
     replace hS:=hS.d2
     exact .inr ⟨_,rfl,rfl,ν1149,eZ,fS,hext,hlow,gJ,hS⟩
    rintro bZ eA w a he_ ⟨ν1143,eY,fR,bA,hlow,rfl,c7,hS⟩ hF
    replace h:=H3 h he_
    replace hext:=hext.t bA
    replace hA3:=hA3.mono bA.1
    replace a2:=a2.mono bA.1
    replace a9:=a9.mono bA.1
    replace aB:=aB.mono bA.1
    replace aF:=aF.mono bA.1
    replace aI:=aI.mono bA.1
    replace aW:=aW.mono bA.1
    replace bI:=bI.mono bA.1
    replace a1:=a1.t bA.1
    refine rn 3 9 [(0,pb cb0),(7,pb aA),(108,iv b4.1),(110,iv bG.1),(112,iv bZ.1),(115,.pointer (some ⟨aA,4,none⟩))] hF fun a hF=>?_
    refine SK.wi (qs 3 2 4 (iv b4.1) hF hS rfl fun w a hF hS=>?_)
    refine qn 3 13 [(118,.pointer (some ⟨aA,5,none⟩))] hF fun a hF=>?_
    refine SK.wi (qs 3 2 5 (iv bG.1) hF hS rfl fun w a hF hS=>?_)
    refine qn 3 17 [(121,.pointer (some ⟨aA,6,none⟩))] hF fun a hF=>?_
    refine SK.wi (qs 3 2 6 (iv bZ.1) hF hS rfl fun w a hF hS=>wfn rfl ?_)
    refine esr<|qx 4 4 [(125,iv (Bn (api_Grid.mk bF.1 bY.1 b4.1 bG.1 bZ.1)))] hF (oN 43 2 2 5 hS.e rfl<|oC (fun w2 hd=>P9 (api_Grid.mk bF.1 bY.1 b4.1 bG.1 bZ.1) _ rfl _ w2 (A4 w2))<|A1) fun a w hF hx=>?_
    replace hS:=hS.later hx
    obtain ⟨jY,hI,h⟩:=A0 h
    refine A0z (fun hZ=>[(0,pb cb0),(7,pb aA)]) hF kr ⟨kr⟩ (P4 F _ _ hI (B0 w) w (A4 w)) (fun _=>⟨kr⟩) ?_ ?_
    ·intro v_ w he_ hx
     replace hS:=hS.later hx
     replace h:=H0 h he_
     refine A6<|Ah<|A6<|Az hF ?_
     obtain rfl:=Ae h
     replace hS:=hS.d2
     exact .inr ⟨_,rfl,rfl,ν1143,eY,fR,hext,hlow,c7,hS⟩
    rintro jZ hZ w a he_ ⟨rfl,hx⟩ hF
    replace h:=H3 h he_
    replace hS:=hS.later hx
    refine wfn rfl ?_
    refine esr ?_
    obtain ⟨i1,h4,h⟩:=A0 h
    refine ro 13 13 [(7,pb aA),(127,pb cb0),(136,iv i1),(137,.agg #[iv 0,iv 0]),(139,.func (.func 98) #[pb cb0] #[])] hF (oL 3 2 5 hS.i rfl rfl<|oL 3 2 6 hS.i rfl rfl<|oM 3 h4<|A1) fun a hF=>?_
    obtain ⟨k0,hJ,h⟩:=A0 h
    refine Ee (fun eB=>[(7,pb aA),(140,eB)]) hF kr ⟨kr⟩ (Ll F _ _ _ _ hJ ν1143 w0 w _ hlow c7 hS) (fun _=>⟨kr⟩) ?_ ?_
    ·rintro jB w he_ ⟨ν1170,f1,fU,b8,hlow,gM,hS⟩
     replace h:=H0 h he_
     replace hext:=hext.t b8
     replace hA3:=hA3.mono b8.1
     replace a2:=a2.mono b8.1
     replace a9:=a9.mono b8.1
     replace aB:=aB.mono b8.1
     replace aF:=aF.mono b8.1
     replace aI:=aI.mono b8.1
     replace aW:=aW.mono b8.1
     replace bI:=bI.mono b8.1
     replace c7:=c7.mono b8.1
     replace a1:=a1.t b8.1
     refine A6<|Ah<|A6<|Az hF ?_
     obtain rfl:=Ae h
     replace hS:=hS.d2
     exact .inr ⟨_,rfl,rfl,ν1170,f1,fU,hext,hlow,gM,hS⟩
    rintro cE eB w a he_ ⟨ν1161,c5,c6,f0,fT,b7,hlow,rfl,gK,gL,hS⟩ hF
    replace h:=H3 h he_
    replace hext:=hext.t b7
    replace hA3:=hA3.mono b7.1
    replace a2:=a2.mono b7.1
    replace a9:=a9.mono b7.1
    replace aB:=aB.mono b7.1
    replace aF:=aF.mono b7.1
    replace aI:=aI.mono b7.1
    replace aW:=aW.mono b7.1
    replace bI:=bI.mono b7.1
    replace c7:=c7.mono b7.1
    replace a1:=a1.t b7.1
    refine rn 2 16 [(7,pb aA),(140,sv c5 cE.1 c6),(142,.pointer (some ⟨aA,7,none⟩))] hF fun a hF=>?_
    refine SK.wi (qs 44 2 7 (sv c5 cE.1 c6) hF hS rfl fun w a hF hS=>wfn rfl ?_)
    refine roB [(2,.iface 158 (.agg #[.string cC.1,iv cD.1,iv bF.1,iv bY.1,iv b4.1,iv bG.1,iv bZ.1,sv c5 cE.1 c6]))] hF (oN 158 2 0 8 hS.i rfl<|A1) fun a hF=>?_
    refine wpIn_ret (Ab<|A2<|A7 [.tmp 2] [_] hF rfl ⟨rfl,trivial⟩ ?_)
    obtain rfl:=Ae h
    replace hS:=hS.d2
    exact .inl ⟨_,_,rfl,rfl,ν1161,(.iface 158 (.agg #[.string cC.1,iv cD.1,iv bF.1,iv bY.1,iv b4.1,iv bG.1,iv bZ.1,sv c5 cE.1 c6])),f0,fT,hext,hlow,rfl,(show volume_thing.R _ _ (.ic158 (volume_field.mk cC.1 cD.1 (api_Field.mk (api_Grid.mk bF.1 bY.1 b4.1 bG.1 bZ.1) cE.1))) from ⟨[.string cC.1,iv cD.1,iv bF.1,iv bY.1,iv b4.1,iv bG.1,iv bZ.1,sv c5 cE.1 c6],rfl,⟨c5,c6,rfl,gK⟩⟩),gL,hS⟩
   ·refine qnB [(145,.bool (cQ.1==3))] hF fun a hF=>?_
    refine A8 hF h (fun hc h=>?_) fun hc h=>?_
    ·refine esr<|qn 1 1 [(147,pb cb0)] hF fun a hF=>?_
     obtain ⟨k1,hK,h⟩:=A0 h
     refine Ee (fun eC=>[(0,pb cb0),(148,eC)]) hF kr ⟨kr⟩ (Ai F _ _ hK ν610 w0 w _ hlow a2 hS) (fun _=>⟨kr⟩) ?_ ?_
     ·rintro jC w he_ ⟨ν1184,f2,fW,d5,hlow,gN,hS⟩
      replace h:=H0 h he_
      replace hext:=hext.t d5
      replace hA3:=hA3.mono d5.1
      replace a2:=a2.mono d5.1
      replace a1:=a1.t d5.1
      refine A6<|Ah<|A6<|Az hF ?_
      obtain rfl:=Ae h
      replace hS:=hS
      exact .inr ⟨_,rfl,rfl,ν1184,f2,fW,hext,hlow,gN,hS⟩
     rintro c4 eC w a he_ ⟨ν1178,iD,iT,d4,hlow,rfl,cI,hS⟩ hF
     replace h:=H3 h he_
     replace hext:=hext.t d4
     replace hA3:=hA3.mono d4.1
     replace a2:=a2.mono d4.1
     replace a1:=a1.t d4.1
     refine rn 1 3 [(0,pb cb0),(8,iv c4.1)] hF fun a hF=>wfn rfl ?_
     refine esr<|rn 2 2 [(149,iv c4.1),(150,pb cb0)] hF fun a hF=>?_
     obtain ⟨k2,hL,h⟩:=A0 h
     refine Ee (fun eD=>[(149,iv c4.1),(151,eD)]) hF kr ⟨kr⟩ (J2 F _ _ hL ν1178 w0 w _ hlow cI hS) (fun _=>⟨kr⟩) ?_ ?_
     ·rintro jD w he_ ⟨ν1198,f4,fY,cM,hlow,gP,hS⟩
      replace h:=H0 h he_
      replace hext:=hext.t cM
      replace hA3:=hA3.mono cM.1
      replace a2:=a2.mono cM.1
      replace cI:=cI.mono cM.1
      replace a1:=a1.t cM.1
      refine A6<|Ah<|A6<|Az hF ?_
      obtain rfl:=Ae h
      replace hS:=hS
      exact .inr ⟨_,rfl,rfl,ν1198,f4,fY,hext,hlow,gP,hS⟩
     rintro dC eD w a he_ ⟨ν1192,f3,fX,cL,hlow,rfl,gO,hS⟩ hF
     replace h:=H3 h he_
     replace hext:=hext.t cL
     replace hA3:=hA3.mono cL.1
     replace a2:=a2.mono cL.1
     replace cI:=cI.mono cL.1
     replace a1:=a1.t cL.1
     refine rn 3 6 [(2,.iface 160 (.agg #[iv c4.1,.string dC.1]))] hF fun a hF=>wfn rfl ?_
     refine wpIn_ret (Ab<|A2<|A7 [.tmp 2] [_] hF rfl ⟨rfl,trivial⟩ ?_)
     obtain rfl:=Ae h
     replace hS:=hS
     exact .inl ⟨_,_,rfl,rfl,ν1192,(.iface 160 (.agg #[iv c4.1,.string dC.1])),f3,fX,hext,hlow,rfl,(show volume_thing.R _ _ (.ic160 (volume_note.mk c4.1 dC.1)) from ⟨[iv c4.1,.string dC.1],rfl,rfl⟩),gO,hS⟩
    ·refine wpIn_skip (A9<|A3<|?_)
     exact ⟨cQ.2.b,ν610,f5,fZ,hF.sub kr,hS,a2,a1,hext,hlow,h⟩
 clear a1
 rintro a w ⟨d8,ν600,cR,cU,hF,hS,gQ,h2,hext,hlow,h⟩
 replace hA3:=hA3.mono h2
 rw [Fu] at h
 refine WI.region<|rn 1 1 [(154,.iface 128 (iv 7))] hF fun a hF=>?_
 refine Qa (t:=128) (v:=iv 7) hF ⟨kr⟩ (Az hF ?_)
 obtain rfl:=Ae h
 replace hS:=hS
 exact .inr ⟨_,rfl,rfl,ν600,cR,cU,hext,hlow,gQ,hS⟩
end Go.Proofs.YtifbomimeodibaaGreat
