import Derived.Test.YtifbomimeodibaaGreatV4XD
import Derived.Test.YtifbomimeodibaaGreatProg
import Derived.Test.YtifbomimeodibaaGreatV4XW1
import Derived.Test.YtifbomimeodibaaGreatV4XW2
import Derived.Test.YtifbomimeodibaaGreatV4XW4
import Derived.Test.YtifbomimeodibaaGreatV4XW5
import Derived.Test.YtifbomimeodibaaGreatV4XW6
namespace Go.Proofs.YtifbomimeodibaaGreat
open Go Go.RowKit Go.Eng
set_option maxRecDepth 10000
set_option maxHeartbeats 4000000
set_option linter.unusedVariables false
set_option linter.unusedSimpArgs false
theorem Kh (F:Nat) (p0:volume_reader) (p1:Int) (p2:api_Echo) (res:Except (Value×volume_reader) ((List api_Echo)×volume_reader)) (h:Eg F p0 p1 p2=some res) (μ:Frz) (w0 w1:World) (T_:List Res) (hlow:B4 w0 μ) {cb0:Nat} {ad1:Option Addr} {cap2:Nat} (hA3:ArrM μ 1 (fK .u8) ad1 cap2 p0.b) (hS:St w0 (fz w0 μ::blk cb0 125 #[sv ad1 p0.b cap2]::T_) w1):Nk Tryz.prog 94 #[pb cb0,iv p1,p2.ag,.func (.func 95) #[pb cb0] #[]] w1 res (fun r_ e w=>∃(ν_:Frz) (c0:Option Addr) (c5:Nat) (c1:Option Addr) (c6:Nat),μ.ext w0.heap.size ν_∧B4 w0 ν_∧e=(sv c0 r_.1 c5)∧ArrM ν_ 14 api_Echo.cells c0 c5 r_.1∧(ArrM ν_ 1 (fK .u8) c1 c6 r_.2.b)∧St w0 (fz w0 ν_::blk cb0 125 #[sv c1 r_.2.b c6]::T_) w) (fun e_ w=>∃(ν_:Frz) (c2:Option Addr) (c7:Nat),μ.ext w0.heap.size ν_∧B4 w0 ν_∧(ArrM ν_ 1 (fK .u8) c2 c7 e_.b)∧St w0 (fz w0 ν_::blk cb0 125 #[sv c2 e_.b c7]::T_) w):=by
 rw [Eg] at h
 have hext:=Frz.ext_refl w0.heap.size μ
 refine Ag Tryz.func94 rfl 49 [(0,pb cb0),(1,iv p1),(2,p2.ag),(3,.func (.func 95) #[pb cb0] #[])] rfl rfl kr fun a w hw hF=>?_
 replace hS:=hS.cast hw
 clear hw
 refine esr ?_
 refine SK.wi (qB 149 (p2.ag) p2.ar (fun b4=>[(6,pb b4)]) hF hS fun b4 w a hF hS=>?_)
 refine qn 1 2 [] hF fun a hF=>?_
 refine wfn rfl ?_
 refine qnB [(9,.slice none 0 0)] hF fun a hF=>?_
 have aK:=Frz.le_refl μ
 refine D9 (fun a w=>∃(bM:Int) (bN:Int) (bO:Int) (bP:Int) (bQ:Int) (bR:Int) (bS:Int) (bT:Int) (bU:Int) (bV:Int) (bW:Int) (bX:Int) (bY:Int) (bZ:Int) (bF:(List Int)) (aU:(List api_Echo)) (ν319:Frz) (b8:Option Addr) (bB:Nat) (aV:Option Addr) (aX:Nat),Fr 49 [] [(9,sv aV aU aX)] a∧St w0 (arr 149 14 api_Echo.cells aV aU.length aX aU::blk b4 149 #[iv bM,iv bN,iv bS,iv bT,iv bU,iv bV,iv bW,iv bX,iv bY,iv bZ,iv bO,iv bP,iv bQ,iv bR]::fz w0 ν319::blk cb0 125 #[sv b8 bF bB]::T_) w∧(ArrM ν319 1 (fK .u8) b8 bB bF)∧(μ.le ν319)∧(μ.ext w0.heap.size ν319)∧(B4 w0 ν319)∧Dl bM bN bO bP bQ bR bS bT bU bV bW bX bY bZ bF aU=some res) ?_ ?_
 ·skip
  refine wpIn_block ?_
  have c9:=Frz.le_refl μ
  replace hS:=hS.nilarr 149 14 api_Echo.cells
  refine Ci (fun n_ a w=>∃(a1:Int) (a2:Int) (a3:Int) (a4:Int) (a5:Int) (a6:Int) (a7:Int) (a8:Int) (a9:Int) (aA:Int) (aB:Int) (aC:Int) (aD:Int) (aE:Int) (b0:(List Int)) (aH:(List api_Echo)) (ν548:Frz) (b9:Option Addr) (bC:Nat) (aO:Option Addr) (aP:Nat),Fr 49 [] [(0,pb cb0),(1,iv p1),(3,.func (.func 95) #[pb cb0] #[]),(6,pb b4),(9,sv aO aH aP)] a∧St w0 (arr 149 14 api_Echo.cells aO aH.length aP aH::blk b4 149 #[iv a1,iv a2,iv a7,iv a8,iv a9,iv aA,iv aB,iv aC,iv aD,iv aE,iv a3,iv a4,iv a5,iv a6]::fz w0 ν548::blk cb0 125 #[sv b9 b0 bC]::T_) w∧(ArrM ν548 1 (fK .u8) b9 bC b0)∧(μ.le ν548)∧(μ.ext w0.heap.size ν548)∧(B4 w0 ν548)∧Cs F p1 n_ a1 a2 a3 a4 a5 a6 a7 a8 a9 aA aB aC aD aE b0 aH=some res) F ⟨p2.Kind,p2.Power.Lo,p2.Match.Lo,p2.Match.Hi,p2.Turn.Lo,p2.Turn.Hi,p2.Power.Hi,p2.Steps.1.Lo,p2.Steps.1.Hi,p2.Steps.2.Lo,p2.Steps.2.Hi,p2.Spread,p2.Ratio.Lo,p2.Ratio.Hi,p0.b,[],μ,ad1,cap2,none,0,hF.sub kr,hS,hA3,c9,hext,hlow,h⟩ ?_
  clear c9
  rintro nk2 a w ⟨a1,a2,a3,a4,a5,a6,a7,a8,a9,aA,aB,aC,aD,aE,b0,aH,ν548,b9,bC,aO,aP,hF,hS,aN,aL,hext,hlow,h⟩
  rcases nk2 with _|nk2
  ·cases (show (none:Option (Except (Value×volume_reader) ((List api_Echo)×volume_reader)))=some res from h)
  replace hA3:=hA3.mono aL
  replace aK:=Frz.le_trans aK aL
  obtain ⟨k2,hk2⟩:∃k,k=Cs F p1 nk2:=⟨_,rfl⟩
  replace h:Dj F p1 k2 a1 a2 a3 a4 a5 a6 a7 a8 a9 aA aB aC aD aE b0 aH=some res:=by rw [hk2];exact h
  rw [Dj] at h
  refine Ar ?_
  refine qnB [(15,.bool (decide ((ln aH)<p1)))] hF fun a hF=>?_
  refine Aj hF rfl (fun hc=>?_) (fun hc=>?_)
  ·replace h:=Af h hc
   refine wpIn_skip (A0 ?_)
   refine wpIn_block ?_
   refine esr ?_
   refine qn 1 1 [(16,pb cb0)] hF fun a hF=>?_
   obtain ⟨cU,cO,h⟩:=A1 h
   replace hS:=hS.s3.s3
   refine Db (fun cA=>[(0,pb cb0),(1,iv p1),(3,.func (.func 95) #[pb cb0] #[]),(6,pb b4),(9,sv aO aH aP),(17,cA)]) hF kr ⟨kr⟩ (Al F _ _ cO ν548 w0 w _ hlow aN hS) (fun _=>⟨kr⟩) ?_ ?_
   ·rintro cS w he_ ⟨ν581,cD,cF,b7,hlow,cI,hS⟩
    replace h:=Fm h he_
    replace hext:=Frz.ext_trans hext b7
    replace hA3:=hA3.mono b7.1
    replace aN:=aN.mono b7.1
    replace aK:=Frz.le_trans aK b7.1
    replace aL:=Frz.le_trans aL b7.1
    refine A7<|Ak<|A7<|Ak<|A7<|Ax hF ?_
    obtain rfl:=Ao h
    replace hS:=hS.d3.d2
    exact .inr ⟨_,rfl,rfl,ν581,cD,cF,hext,hlow,cI,hS⟩
   rintro aG cA w a he_ ⟨ν575,b1,b3,b6,hlow,rfl,aT,hS⟩ hF
   replace h:=Fo h he_
   replace hext:=Frz.ext_trans hext b6
   replace hA3:=hA3.mono b6.1
   replace aN:=aN.mono b6.1
   replace aK:=Frz.le_trans aK b6.1
   replace aL:=Frz.le_trans aL b6.1
   refine rn 1 3 [(0,pb cb0),(1,iv p1),(3,.func (.func 95) #[pb cb0] #[]),(6,pb b4),(9,sv aO aH aP),(10,iv aG.1)] hF fun a hF=>?_
   refine wfn rfl ?_
   refine D9 (fun a w=>Fr 49 [] [(0,pb cb0),(1,iv p1),(3,.func (.func 95) #[pb cb0] #[]),(6,pb b4),(9,sv aO aH aP),(10,iv aG.1)] a∧St w0 (fz w0 ν575::blk cb0 125 #[sv b1 aG.2.b b3]::arr 149 14 api_Echo.cells aO aH.length aP aH::blk b4 149 #[iv a1,iv a2,iv a7,iv a8,iv a9,iv aA,iv aB,iv aC,iv aD,iv aE,iv a3,iv a4,iv a5,iv a6]::T_) w∧Dm F p1 a1 a2 a3 a4 a5 a6 a7 a8 a9 aA aB aC aD aE aH k2 aG=some res) ?_ ?_
   ·skip
    refine esr ?_
    obtain ⟨cR,cN,h⟩:=A1 h
    refine qo 6 6 [(23,.bool (decide (aG.1>cR)))] hF (oS 3 cN<|A9) fun a hF=>?_
    refine wfn rfl ?_
    refine Aj hF rfl (fun hc=>?_) (fun hc=>?_)
    ·replace h:=Af h hc
     refine WI.region ?_
     refine qn 1 1 [(24,.iface 128 (iv 7))] hF fun a hF=>?_
     refine Ny (t:=128) (v:=iv 7) hF ⟨kr⟩ (A7<|Ak<|A7<|Ak<|A7<|Ax hF ?_)
     obtain rfl:=Ao h
     replace hS:=hS.d3.d2
     exact .inr ⟨_,rfl,rfl,ν575,b1,b3,hext,hlow,aT,hS⟩
    ·replace h:=Ae h hc
     refine wpIn_skip (A0 ?_)
     exact ⟨hF.sub kr,hS,h⟩
   rintro a w ⟨hF,hS,h⟩
   rw [Dm] at h
   refine D9 (fun a w=>∃(aF:(List api_Echo)) (aI:Option Addr) (aJ:Nat),Fr 49 [] [(0,pb cb0),(1,iv p1),(3,.func (.func 95) #[pb cb0] #[]),(6,pb b4),(9,sv aI aF aJ)] a∧St w0 (arr 149 14 api_Echo.cells aI aF.length aJ aF::fz w0 ν575::blk cb0 125 #[sv b1 aG.2.b b3]::blk b4 149 #[iv a1,iv a2,iv a7,iv a8,iv a9,iv aA,iv aB,iv aC,iv aD,iv aE,iv a3,iv a4,iv a5,iv a6]::T_) w∧Dn F p1 a1 a2 a3 a4 a5 a6 a7 a8 a9 aA aB aC aD aE k2 aG aF=some res) ?_ ?_
   ·skip
    refine qnB [(25,iv aG.1),(26,iv 0)] hF fun a hF=>?_
    refine wpIn_block ?_
    refine Ci (fun n_ a w=>∃(aS:Int) (aM:(List api_Echo)) (aQ:Option Addr) (aR:Nat),Fr 49 [] [(0,pb cb0),(1,iv p1),(3,.func (.func 95) #[pb cb0] #[]),(6,pb b4),(9,sv aQ aM aR),(25,iv aG.1),(26,iv aS)] a∧St w0 (arr 149 14 api_Echo.cells aQ aM.length aR aM::fz w0 ν575::blk cb0 125 #[sv b1 aG.2.b b3]::blk b4 149 #[iv a1,iv a2,iv a7,iv a8,iv a9,iv aA,iv aB,iv aC,iv aD,iv aE,iv a3,iv a4,iv a5,iv a6]::T_) w∧Ct F p1 a1 a2 a3 a4 a5 a6 a7 a8 a9 aA aB aC aD aE k2 aG n_ aS aM=some res) F ⟨0,aH,aO,aP,hF.sub kr,hS.s2,h⟩ ?_
    rintro nk6 a w ⟨aS,aM,aQ,aR,hF,hS,h⟩
    rcases nk6 with _|nk6
    ·cases (show (none:Option (Except (Value×volume_reader) ((List api_Echo)×volume_reader)))=some res from h)
    obtain ⟨k6,hk6⟩:∃k,k=Ct F p1 a1 a2 a3 a4 a5 a6 a7 a8 a9 aA aB aC aD aE k2 aG nk6:=⟨_,rfl⟩
    replace h:Dk F p1 a1 a2 a3 a4 a5 a6 a7 a8 a9 aA aB aC aD aE k2 aG k6 aS aM=some res:=by rw [hk6];exact h
    rw [Dk] at h
    refine qnB [(27,.bool (decide (aS<aG.1)))] hF fun a hF=>?_
    refine Ar ?_
    refine Aj hF rfl (fun hc=>?_) (fun hc=>?_)
    ·replace h:=Af h hc
     refine wpIn_skip (A0 ?_)
     refine Ar ?_
     refine wpIn_block ?_
     refine WI.region ?_
     refine qo 2 2 [(28,sv aQ aM aR),(29,.agg #[iv a1,iv a2,iv a7,iv a8,iv a9,iv aA,iv aB,iv aC,iv aD,iv aE,iv a3,iv a4,iv a5,iv a6])] hF (oN 149 3 0 14 hS.i rfl<|A9) fun a hF=>?_
     refine SK.wi (Fe (e:=149) (sz:=14) (f:=api_Echo.cells) (t:=87) (len:=1) (fun c4=>[(0,pb cb0),(1,iv p1),(3,.func (.func 95) #[pb cb0] #[]),(6,pb b4),(9,sv aQ aM aR),(25,iv aG.1),(26,iv aS),(28,sv aQ aM aR),(30,sb c4 1)]) #[(0,.agg #[iv a1,iv a2,iv a7,iv a8,iv a9,iv aA,iv aB,iv aC,iv aD,iv aE,iv a3,iv a4,iv a5,iv a6])] #[iv a1,iv a2,iv a7,iv a8,iv a9,iv aA,iv aB,iv aC,iv aD,iv aE,iv a3,iv a4,iv a5,iv a6] ([(api_Echo.mk a1 (api_Span.mk a2 a7) ((api_Span.mk a8 a9),(api_Span.mk aA aB)) aC (api_Span.mk aD aE) (api_Span.mk a3 a4) (api_Span.mk a5 a6))]) hF hS kr ⟨kr⟩ kr api_Echo.cells_len rfl rfl kr (fun _=>⟨kr⟩) fun c4 w a hF hS=>?_)
     obtain ⟨bG,cL,h⟩:=A1 h
     refine SK.wi (Lq (t:=87) (ty:=87) (bytes:=112) (l:=aM) (l':=([(api_Echo.mk a1 (api_Span.mk a2 a7) ((api_Span.mk a8 a9),(api_Span.mk aA aB)) aC (api_Span.mk aD aE) (api_Span.mk a3 a4) (api_Span.mk a5 a6))])) (fun b2 b5=>[(0,pb cb0),(1,iv p1),(3,.func (.func 95) #[pb cb0] #[]),(6,pb b4),(9,sv aQ aM aR),(25,iv aG.1),(26,iv aS),(31,sv b2 bG b5)]) 1 hF hS rfl kr ⟨kr⟩ kr (hS.arr (i:=0) rfl) (fun _ _=>rfl) cL (fun _ _=>⟨kr⟩) fun b2 b5 w a hF hS=>?_)
     refine rn 1 5 [(0,pb cb0),(1,iv p1),(3,.func (.func 95) #[pb cb0] #[]),(6,pb b4),(9,sv b2 bG b5),(25,iv aG.1),(26,iv aS)] hF fun a hF=>?_
     refine WI.fin rfl (Ab<|A0<|?_)
     refine WI.region ?_
     obtain ⟨cC,cM,h⟩:=A1 h
     refine ro 2 2 [(0,pb cb0),(1,iv p1),(3,.func (.func 95) #[pb cb0] #[]),(6,pb b4),(9,sv b2 bG b5),(25,iv aG.1),(26,iv cC)] hF (oA 3 cM<|A9) fun a hF=>?_
     refine wfn rfl ?_
     rw [hk6] at h
     exact ⟨nk6,Nat.lt_succ_self _,cC,bG,b2,b5,hF.sub kr,hS.d0,h⟩
    ·replace h:=Ae h hc
     refine wpIn_exit (Aa<|Aa<|Av<|A0 ?_)
     exact ⟨aM,aQ,aR,hF.sub kr,hS,h⟩
   rintro a w ⟨aF,aI,aJ,hF,hS,h⟩
   rw [Dn] at h
   refine qnB [(36,.bool (decide ((ln aF)<p1)))] hF fun a hF=>?_
   refine Aj hF rfl (fun hc=>?_) (fun hc=>?_)
   ·replace h:=Af h hc
    refine esr ?_
    refine qn 1 1 [(37,.func (.func 95) #[pb cb0] #[])] hF fun a hF=>?_
    obtain ⟨cV,cP,h⟩:=A1 h
    replace hS:=hS.s2.s2
    refine Db (fun cB=>[(0,pb cb0),(1,iv p1),(3,.func (.func 95) #[pb cb0] #[]),(6,pb b4),(9,sv aI aF aJ),(38,cB)]) hF kr ⟨kr⟩ (P0 F _ _ cP ν575 w0 w _ hlow aT hS) (fun _=>⟨kr⟩) ?_ ?_
    ·rintro cT w he_ ⟨ν623,cE,cG,aZ,hlow,cJ,hS⟩
     replace h:=Fm h he_
     replace hext:=Frz.ext_trans hext aZ
     replace hA3:=hA3.mono aZ.1
     replace aN:=aN.mono aZ.1
     replace aT:=aT.mono aZ.1
     replace aK:=Frz.le_trans aK aZ.1
     replace aL:=Frz.le_trans aL aZ.1
     refine A7<|Ak<|A7<|Ak<|A7<|Ax hF ?_
     obtain rfl:=Ao h
     replace hS:=hS.d3.d2
     exact .inr ⟨_,rfl,rfl,ν623,cE,cG,hext,hlow,cJ,hS⟩
    rintro a0 cB w a he_ ⟨ν617,bH,bI,aY,hlow,rfl,c8,hS⟩ hF
    replace h:=Fo h he_
    replace hext:=Frz.ext_trans hext aY
    replace hA3:=hA3.mono aY.1
    replace aN:=aN.mono aY.1
    replace aT:=aT.mono aY.1
    replace aK:=Frz.le_trans aK aY.1
    replace aL:=Frz.le_trans aL aY.1
    refine SK.wi (Kp (t:=149) (fun aW=>[(0,pb cb0),(1,iv p1),(3,.func (.func 95) #[pb cb0] #[]),(6,pb b4),(9,sv aI aF aJ),(11,pb aW),(38,a0.1.ag)]) #[iv 0,iv 0,iv 0,iv 0,iv 0,iv 0,iv 0,iv 0,iv 0,iv 0,iv 0,iv 0,iv 0,iv 0] hF hS kr ⟨kr⟩ kr (fun _=>⟨kr⟩) fun aW w a hF hS=>?_)
    refine SK.wi (Kc (t:=149) [(0,pb cb0),(1,iv p1),(3,.func (.func 95) #[pb cb0] #[]),(6,pb b4),(9,sv aI aF aJ),(11,pb aW)] 0 0 (a0.1.ag) a0.1.ar hF hS rfl kr ⟨kr⟩ kr kr kr kr ⟨kr⟩ fun w a hF hS=>?_)
    refine wfn rfl ?_
    refine D9 (fun a w=>Fr 49 [] [(0,pb cb0),(1,iv p1),(3,.func (.func 95) #[pb cb0] #[]),(6,pb b4),(9,sv aI aF aJ),(11,pb aW)] a∧St w0 (blk aW 149 a0.1.ar::fz w0 ν617::blk cb0 125 #[sv bH a0.2.b bI]::arr 149 14 api_Echo.cells aI aF.length aJ aF::blk b4 149 #[iv a1,iv a2,iv a7,iv a8,iv a9,iv aA,iv aB,iv aC,iv aD,iv aE,iv a3,iv a4,iv a5,iv a6]::T_) w∧Do k2 aF a0=some res) ?_ ?_
    ·skip
     refine roB [(0,pb cb0),(1,iv p1),(3,.func (.func 95) #[pb cb0] #[]),(6,pb b4),(9,sv aI aF aJ),(11,pb aW),(41,.bool (((a0.1.Kind:Int)==a1)&&((((a0.1.Power.Lo:Int)==a2)&&(((a0.1.Power.Hi:Int)==a7)&&true))&&(((((a0.1.Steps.1.Lo:Int)==a8)&&(((a0.1.Steps.1.Hi:Int)==a9)&&true))&&((((a0.1.Steps.2.Lo:Int)==aA)&&(((a0.1.Steps.2.Hi:Int)==aB)&&true))&&true))&&(((a0.1.Spread:Int)==aC)&&((((a0.1.Ratio.Lo:Int)==aD)&&(((a0.1.Ratio.Hi:Int)==aE)&&true))&&((((a0.1.Match.Lo:Int)==a3)&&(((a0.1.Match.Hi:Int)==a4)&&true))&&((((a0.1.Turn.Lo:Int)==a5)&&(((a0.1.Turn.Hi:Int)==a6)&&true))&&true))))))))] hF (oN 149 0 0 14 hS.i rfl<|oN 149 4 0 14 hS.i rfl<|oX (.run [] (eqS .eql 149 a0.1.ar #[iv a1,iv a2,iv a7,iv a8,iv a9,iv aA,iv aB,iv aC,iv aD,iv aE,iv a3,iv a4,iv a5,iv a6]) (.bool (((a0.1.Kind:Int)==a1)&&((((a0.1.Power.Lo:Int)==a2)&&(((a0.1.Power.Hi:Int)==a7)&&true))&&(((((a0.1.Steps.1.Lo:Int)==a8)&&(((a0.1.Steps.1.Hi:Int)==a9)&&true))&&((((a0.1.Steps.2.Lo:Int)==aA)&&(((a0.1.Steps.2.Hi:Int)==aB)&&true))&&true))&&(((a0.1.Spread:Int)==aC)&&((((a0.1.Ratio.Lo:Int)==aD)&&(((a0.1.Ratio.Hi:Int)==aE)&&true))&&((((a0.1.Match.Lo:Int)==a3)&&(((a0.1.Match.Hi:Int)==a4)&&true))&&((((a0.1.Turn.Lo:Int)==a5)&&(((a0.1.Turn.Hi:Int)==a6)&&true))&&true))))))))) (Lf kr kr)<|A9) fun a hF=>?_
     refine Aj hF rfl (fun hc=>?_) (fun hc=>?_)
     ·replace h:=Af h hc
      refine WI.region ?_
      refine qn 1 1 [(42,.iface 128 (iv 7))] hF fun a hF=>?_
      refine Ny (t:=128) (v:=iv 7) hF ⟨kr⟩ (A7<|Ak<|A7<|Ak<|A7<|Ax hF ?_)
      obtain rfl:=Ao h
      replace hS:=hS.d4.d3.d0
      exact .inr ⟨_,rfl,rfl,ν617,bH,bI,hext,hlow,c8,hS⟩
     ·replace h:=Ae h hc
      refine wpIn_skip (A0 ?_)
      exact ⟨hF.sub kr,hS,h⟩
    rintro a w ⟨hF,hS,h⟩
    rw [Do] at h
    refine esr ?_
    refine qo 1 1 [(43,a0.1.ag)] hF (oN 149 0 0 14 hS.i rfl<|A9) fun a hF=>?_
    refine SK.wi (qS 149 4 0 (a0.1.ag) a0.1.ar hF hS rfl fun w a hF hS=>?_)
    refine wfn rfl ?_
    refine WI.region ?_
    refine qo 2 2 [(44,sv aI aF aJ),(45,a0.1.ag)] hF (oN 149 0 0 14 hS.i rfl<|A9) fun a hF=>?_
    refine SK.wi (Fe (e:=149) (sz:=14) (f:=api_Echo.cells) (t:=87) (len:=1) (fun c3=>[(0,pb cb0),(1,iv p1),(3,.func (.func 95) #[pb cb0] #[]),(6,pb b4),(9,sv aI aF aJ),(44,sv aI aF aJ),(46,sb c3 1)]) #[(0,a0.1.ag)] a0.1.ar ([(api_Echo.mk a0.1.Kind (api_Span.mk a0.1.Power.Lo a0.1.Power.Hi) ((api_Span.mk a0.1.Steps.1.Lo a0.1.Steps.1.Hi),(api_Span.mk a0.1.Steps.2.Lo a0.1.Steps.2.Hi)) a0.1.Spread (api_Span.mk a0.1.Ratio.Lo a0.1.Ratio.Hi) (api_Span.mk a0.1.Match.Lo a0.1.Match.Hi) (api_Span.mk a0.1.Turn.Lo a0.1.Turn.Hi))]) hF hS kr ⟨kr⟩ kr api_Echo.cells_len rfl rfl kr (fun _=>⟨kr⟩) fun c3 w a hF hS=>?_)
    obtain ⟨bL,cK,h⟩:=A1 h
    refine SK.wi (Lq (t:=87) (ty:=87) (bytes:=112) (l:=aF) (l':=([(api_Echo.mk a0.1.Kind (api_Span.mk a0.1.Power.Lo a0.1.Power.Hi) ((api_Span.mk a0.1.Steps.1.Lo a0.1.Steps.1.Hi),(api_Span.mk a0.1.Steps.2.Lo a0.1.Steps.2.Hi)) a0.1.Spread (api_Span.mk a0.1.Ratio.Lo a0.1.Ratio.Hi) (api_Span.mk a0.1.Match.Lo a0.1.Match.Hi) (api_Span.mk a0.1.Turn.Lo a0.1.Turn.Hi))])) (fun bA bD=>[(0,pb cb0),(1,iv p1),(3,.func (.func 95) #[pb cb0] #[]),(6,pb b4),(9,sv aI aF aJ),(47,sv bA bL bD)]) 4 hF hS rfl kr ⟨kr⟩ kr (hS.arr (i:=0) rfl) (fun _ _=>rfl) cK (fun _ _=>⟨kr⟩) fun bA bD w a hF hS=>?_)
    refine rn 1 5 [(0,pb cb0),(1,iv p1),(3,.func (.func 95) #[pb cb0] #[]),(6,pb b4),(9,sv bA bL bD)] hF fun a hF=>?_
    refine WI.fin rfl (Ab<|A0<|?_)
    rw [hk2] at h
    exact ⟨nk2,Nat.lt_succ_self _,a0.1.Kind,a0.1.Power.Lo,a0.1.Match.Lo,a0.1.Match.Hi,a0.1.Turn.Lo,a0.1.Turn.Hi,a0.1.Power.Hi,a0.1.Steps.1.Lo,a0.1.Steps.1.Hi,a0.1.Steps.2.Lo,a0.1.Steps.2.Hi,a0.1.Spread,a0.1.Ratio.Lo,a0.1.Ratio.Hi,a0.2.b,bL,ν617,bH,bI,bA,bD,hF.sub kr,hS.d1.d0.s3.s3,c8,aL,hext,hlow,h⟩
   ·replace h:=Ae h hc
    refine wpIn_skip (Ab<|A0<|?_)
    rw [hk2] at h
    exact ⟨nk2,Nat.lt_succ_self _,a1,a2,a3,a4,a5,a6,a7,a8,a9,aA,aB,aC,aD,aE,aG.2.b,aF,ν575,b1,b3,aI,aJ,hF.sub kr,hS.s3.s1,aT,aL,hext,hlow,h⟩
  ·replace h:=Ae h hc
   refine wpIn_exit (Aa<|Aa<|Av<|A0 ?_)
   exact ⟨a1,a2,a3,a4,a5,a6,a7,a8,a9,aA,aB,aC,aD,aE,b0,aH,ν548,b9,bC,aO,aP,hF.sub kr,hS,aN,aK,hext,hlow,h⟩
 clear aK
 rintro a w ⟨bM,bN,bO,bP,bQ,bR,bS,bT,bU,bV,bW,bX,bY,bZ,bF,aU,ν319,b8,bB,aV,aX,hF,hS,bJ,bK,hext,hlow,h⟩
 replace hA3:=hA3.mono bK
 rw [Dl] at h
 refine rnB [(8,sv aV aU aX)] hF fun a hF=>?_
 refine wpIn_ret (Ad [.tmp 8] [sv aV aU aX] hF rfl ⟨rfl,trivial⟩ ?_)
 obtain ⟨ν342,bE,hlow,hS,cQ⟩:=hS.freeze (i:=2) (j:=0) rfl rfl (by decide) hlow
 replace hA3:=hA3.mono bE.1
 replace bJ:=bJ.mono bE.1
 replace bK:=Frz.le_trans bK bE.1
 replace hext:=Frz.ext_trans hext bE
 have cH:=ArrM.of_arr cQ
 obtain rfl:=Ao h
 replace hS:=hS.d0
 exact .inl ⟨_,_,rfl,rfl,ν342,aV,aX,b8,bB,hext,hlow,rfl,cH,bJ,hS⟩
theorem Ki (F:Nat) (p0:volume_reader) (p1:Int) (p2:api_Span) (res:Except (Value×volume_reader) ((List api_Span)×volume_reader)) (h:Eh F p0 p1 p2=some res) (μ:Frz) (w0 w1:World) (T_:List Res) (hlow:B4 w0 μ) {cb0:Nat} {ad1:Option Addr} {cap2:Nat} (hA3:ArrM μ 1 (fK .u8) ad1 cap2 p0.b) (hS:St w0 (fz w0 μ::blk cb0 125 #[sv ad1 p0.b cap2]::T_) w1):Nk Tryz.prog 97 #[pb cb0,iv p1,.agg #[iv p2.Lo,iv p2.Hi],.func (.func 98) #[pb cb0] #[]] w1 res (fun r_ e w=>∃(ν_:Frz) (bC:Option Addr) (bH:Nat) (bD:Option Addr) (bI:Nat),μ.ext w0.heap.size ν_∧B4 w0 ν_∧e=(sv bC r_.1 bH)∧ArrM ν_ 2 api_Span.cells bC bH r_.1∧(ArrM ν_ 1 (fK .u8) bD bI r_.2.b)∧St w0 (fz w0 ν_::blk cb0 125 #[sv bD r_.2.b bI]::T_) w) (fun e_ w=>∃(ν_:Frz) (bE:Option Addr) (bJ:Nat),μ.ext w0.heap.size ν_∧B4 w0 ν_∧(ArrM ν_ 1 (fK .u8) bE bJ e_.b)∧St w0 (fz w0 ν_::blk cb0 125 #[sv bE e_.b bJ]::T_) w):=by
 rw [Eh] at h
 have hext:=Frz.ext_refl w0.heap.size μ
 refine Ag Tryz.func97 rfl 49 [(0,pb cb0),(1,iv p1),(2,.agg #[iv p2.Lo,iv p2.Hi]),(3,.func (.func 98) #[pb cb0] #[])] rfl rfl kr fun a w hw hF=>?_
 replace hS:=hS.cast hw
 clear hw
 refine esr ?_
 refine SK.wi (qB 146 (.agg #[iv p2.Lo,iv p2.Hi]) #[iv p2.Lo,iv p2.Hi] (fun b4=>[(6,pb b4)]) hF hS fun b4 w a hF hS=>?_)
 refine qn 1 2 [] hF fun a hF=>?_
 refine wfn rfl ?_
 refine qnB [(9,.slice none 0 0)] hF fun a hF=>?_
 have a8:=Frz.le_refl μ
 refine D9 (fun a w=>∃(bA:Int) (bB:Int) (b2:(List Int)) (aI:(List api_Span)) (ν295:Frz) (aV:Option Addr) (aY:Nat) (aJ:Option Addr) (aL:Nat),Fr 49 [] [(9,sv aJ aI aL)] a∧St w0 (arr 146 2 api_Span.cells aJ aI.length aL aI::blk b4 146 #[iv bA,iv bB]::fz w0 ν295::blk cb0 125 #[sv aV b2 aY]::T_) w∧(ArrM ν295 1 (fK .u8) aV aY b2)∧(μ.le ν295)∧(μ.ext w0.heap.size ν295)∧(B4 w0 ν295)∧Dr bA bB b2 aI=some res) ?_ ?_
 ·skip
  refine wpIn_block ?_
  have bL:=Frz.le_refl μ
  replace hS:=hS.nilarr 146 2 api_Span.cells
  refine Ci (fun n_ a w=>∃(a1:Int) (a2:Int) (aO:(List Int)) (a5:(List api_Span)) (ν500:Frz) (aW:Option Addr) (aZ:Nat) (aC:Option Addr) (aD:Nat),Fr 49 [] [(0,pb cb0),(1,iv p1),(3,.func (.func 98) #[pb cb0] #[]),(6,pb b4),(9,sv aC a5 aD)] a∧St w0 (arr 146 2 api_Span.cells aC a5.length aD a5::blk b4 146 #[iv a1,iv a2]::fz w0 ν500::blk cb0 125 #[sv aW aO aZ]::T_) w∧(ArrM ν500 1 (fK .u8) aW aZ aO)∧(μ.le ν500)∧(μ.ext w0.heap.size ν500)∧(B4 w0 ν500)∧Cu F p1 n_ a1 a2 aO a5=some res) F ⟨p2.Lo,p2.Hi,p0.b,[],μ,ad1,cap2,none,0,hF.sub kr,hS,hA3,bL,hext,hlow,h⟩ ?_
  clear bL
  rintro nk2 a w ⟨a1,a2,aO,a5,ν500,aW,aZ,aC,aD,hF,hS,aB,a9,hext,hlow,h⟩
  rcases nk2 with _|nk2
  ·cases (show (none:Option (Except (Value×volume_reader) ((List api_Span)×volume_reader)))=some res from h)
  replace hA3:=hA3.mono a9
  replace a8:=Frz.le_trans a8 a9
  obtain ⟨k2,hk2⟩:∃k,k=Cu F p1 nk2:=⟨_,rfl⟩
  replace h:Dp F p1 k2 a1 a2 aO a5=some res:=by rw [hk2];exact h
  rw [Dp] at h
  refine Ar ?_
  refine qnB [(15,.bool (decide ((ln a5)<p1)))] hF fun a hF=>?_
  refine Aj hF rfl (fun hc=>?_) (fun hc=>?_)
  ·replace h:=Af h hc
   refine wpIn_skip (A0 ?_)
   refine wpIn_block ?_
   refine esr ?_
   refine qn 1 1 [(16,pb cb0)] hF fun a hF=>?_
   obtain ⟨c6,c0,h⟩:=A1 h
   replace hS:=hS.s3.s3
   refine Db (fun bM=>[(0,pb cb0),(1,iv p1),(3,.func (.func 98) #[pb cb0] #[]),(6,pb b4),(9,sv aC a5 aD),(17,bM)]) hF kr ⟨kr⟩ (Al F _ _ c0 ν500 w0 w _ hlow aB hS) (fun _=>⟨kr⟩) ?_ ?_
   ·rintro c4 w he_ ⟨ν521,bP,bR,aU,hlow,bU,hS⟩
    replace h:=Fm h he_
    replace hext:=Frz.ext_trans hext aU
    replace hA3:=hA3.mono aU.1
    replace aB:=aB.mono aU.1
    replace a8:=Frz.le_trans a8 aU.1
    replace a9:=Frz.le_trans a9 aU.1
    refine A7<|Ak<|A7<|Ak<|A7<|Ax hF ?_
    obtain rfl:=Ao h
    replace hS:=hS.d3.d2
    exact .inr ⟨_,rfl,rfl,ν521,bP,bR,hext,hlow,bU,hS⟩
   rintro a4 bM w a he_ ⟨ν515,aP,aR,aT,hlow,rfl,aH,hS⟩ hF
   replace h:=Fo h he_
   replace hext:=Frz.ext_trans hext aT
   replace hA3:=hA3.mono aT.1
   replace aB:=aB.mono aT.1
   replace a8:=Frz.le_trans a8 aT.1
   replace a9:=Frz.le_trans a9 aT.1
   refine rn 1 3 [(0,pb cb0),(1,iv p1),(3,.func (.func 98) #[pb cb0] #[]),(6,pb b4),(9,sv aC a5 aD),(10,iv a4.1)] hF fun a hF=>?_
   refine wfn rfl ?_
   refine D9 (fun a w=>Fr 49 [] [(0,pb cb0),(1,iv p1),(3,.func (.func 98) #[pb cb0] #[]),(6,pb b4),(9,sv aC a5 aD),(10,iv a4.1)] a∧St w0 (fz w0 ν515::blk cb0 125 #[sv aP a4.2.b aR]::arr 146 2 api_Span.cells aC a5.length aD a5::blk b4 146 #[iv a1,iv a2]::T_) w∧Dt F p1 a1 a2 a5 k2 a4=some res) ?_ ?_
   ·skip
    refine esr ?_
    obtain ⟨c3,bZ,h⟩:=A1 h
    refine qo 6 6 [(23,.bool (decide (a4.1>c3)))] hF (oS 3 bZ<|A9) fun a hF=>?_
    refine wfn rfl ?_
    refine Aj hF rfl (fun hc=>?_) (fun hc=>?_)
    ·replace h:=Af h hc
     refine WI.region ?_
     refine qn 1 1 [(24,.iface 128 (iv 7))] hF fun a hF=>?_
     refine Ny (t:=128) (v:=iv 7) hF ⟨kr⟩ (A7<|Ak<|A7<|Ak<|A7<|Ax hF ?_)
     obtain rfl:=Ao h
     replace hS:=hS.d3.d2
     exact .inr ⟨_,rfl,rfl,ν515,aP,aR,hext,hlow,aH,hS⟩
    ·replace h:=Ae h hc
     refine wpIn_skip (A0 ?_)
     exact ⟨hF.sub kr,hS,h⟩
   rintro a w ⟨hF,hS,h⟩
   rw [Dt] at h
   refine D9 (fun a w=>∃(a3:(List api_Span)) (a6:Option Addr) (a7:Nat),Fr 49 [] [(0,pb cb0),(1,iv p1),(3,.func (.func 98) #[pb cb0] #[]),(6,pb b4),(9,sv a6 a3 a7)] a∧St w0 (arr 146 2 api_Span.cells a6 a3.length a7 a3::fz w0 ν515::blk cb0 125 #[sv aP a4.2.b aR]::blk b4 146 #[iv a1,iv a2]::T_) w∧Du F p1 a1 a2 k2 a4 a3=some res) ?_ ?_
   ·skip
    refine qnB [(25,iv a4.1),(26,iv 0)] hF fun a hF=>?_
    refine wpIn_block ?_
    refine Ci (fun n_ a w=>∃(aG:Int) (aA:(List api_Span)) (aE:Option Addr) (aF:Nat),Fr 49 [] [(0,pb cb0),(1,iv p1),(3,.func (.func 98) #[pb cb0] #[]),(6,pb b4),(9,sv aE aA aF),(25,iv a4.1),(26,iv aG)] a∧St w0 (arr 146 2 api_Span.cells aE aA.length aF aA::fz w0 ν515::blk cb0 125 #[sv aP a4.2.b aR]::blk b4 146 #[iv a1,iv a2]::T_) w∧Cv F p1 a1 a2 k2 a4 n_ aG aA=some res) F ⟨0,a5,aC,aD,hF.sub kr,hS.s2,h⟩ ?_
    rintro nk6 a w ⟨aG,aA,aE,aF,hF,hS,h⟩
    rcases nk6 with _|nk6
    ·cases (show (none:Option (Except (Value×volume_reader) ((List api_Span)×volume_reader)))=some res from h)
    obtain ⟨k6,hk6⟩:∃k,k=Cv F p1 a1 a2 k2 a4 nk6:=⟨_,rfl⟩
    replace h:Dq F p1 a1 a2 k2 a4 k6 aG aA=some res:=by rw [hk6];exact h
    rw [Dq] at h
    refine qnB [(27,.bool (decide (aG<a4.1)))] hF fun a hF=>?_
    refine Ar ?_
    refine Aj hF rfl (fun hc=>?_) (fun hc=>?_)
    ·replace h:=Af h hc
     refine wpIn_skip (A0 ?_)
     refine Ar ?_
     refine wpIn_block ?_
     refine WI.region ?_
     refine qo 2 2 [(28,sv aE aA aF),(29,.agg #[iv a1,iv a2])] hF (oN 146 3 0 2 hS.i rfl<|A9) fun a hF=>?_
     refine SK.wi (Fe (e:=146) (sz:=2) (f:=api_Span.cells) (t:=44) (len:=1) (fun bG=>[(0,pb cb0),(1,iv p1),(3,.func (.func 98) #[pb cb0] #[]),(6,pb b4),(9,sv aE aA aF),(25,iv a4.1),(26,iv aG),(28,sv aE aA aF),(30,sb bG 1)]) #[(0,.agg #[iv a1,iv a2])] #[iv a1,iv a2] ([(api_Span.mk a1 a2)]) hF hS kr ⟨kr⟩ kr api_Span.cells_len rfl rfl kr (fun _=>⟨kr⟩) fun bG w a hF hS=>?_)
     obtain ⟨b3,bX,h⟩:=A1 h
     refine SK.wi (Lq (t:=44) (ty:=44) (bytes:=16) (l:=aA) (l':=([(api_Span.mk a1 a2)])) (fun aQ aS=>[(0,pb cb0),(1,iv p1),(3,.func (.func 98) #[pb cb0] #[]),(6,pb b4),(9,sv aE aA aF),(25,iv a4.1),(26,iv aG),(31,sv aQ b3 aS)]) 1 hF hS rfl kr ⟨kr⟩ kr (hS.arr (i:=0) rfl) (fun _ _=>rfl) bX (fun _ _=>⟨kr⟩) fun aQ aS w a hF hS=>?_)
     refine rn 1 5 [(0,pb cb0),(1,iv p1),(3,.func (.func 98) #[pb cb0] #[]),(6,pb b4),(9,sv aQ b3 aS),(25,iv a4.1),(26,iv aG)] hF fun a hF=>?_
     refine WI.fin rfl (Ab<|A0<|?_)
     refine WI.region ?_
     obtain ⟨bO,bY,h⟩:=A1 h
     refine ro 2 2 [(0,pb cb0),(1,iv p1),(3,.func (.func 98) #[pb cb0] #[]),(6,pb b4),(9,sv aQ b3 aS),(25,iv a4.1),(26,iv bO)] hF (oA 3 bY<|A9) fun a hF=>?_
     refine wfn rfl ?_
     rw [hk6] at h
     exact ⟨nk6,Nat.lt_succ_self _,bO,b3,aQ,aS,hF.sub kr,hS.d0,h⟩
    ·replace h:=Ae h hc
     refine wpIn_exit (Aa<|Aa<|Av<|A0 ?_)
     exact ⟨aA,aE,aF,hF.sub kr,hS,h⟩
   rintro a w ⟨a3,a6,a7,hF,hS,h⟩
   rw [Du] at h
   refine qnB [(36,.bool (decide ((ln a3)<p1)))] hF fun a hF=>?_
   refine Aj hF rfl (fun hc=>?_) (fun hc=>?_)
   ·replace h:=Af h hc
    refine esr ?_
    refine qn 1 1 [(37,.func (.func 98) #[pb cb0] #[])] hF fun a hF=>?_
    obtain ⟨c7,c1,h⟩:=A1 h
    replace hS:=hS.s2.s2
    refine Db (fun bN=>[(0,pb cb0),(1,iv p1),(3,.func (.func 98) #[pb cb0] #[]),(6,pb b4),(9,sv a6 a3 a7),(38,bN)]) hF kr ⟨kr⟩ (Ca F _ _ c1 ν515 w0 w _ hlow aH hS) (fun _=>⟨kr⟩) ?_ ?_
    ·rintro c5 w he_ ⟨ν563,bQ,bS,aN,hlow,bV,hS⟩
     replace h:=Fm h he_
     replace hext:=Frz.ext_trans hext aN
     replace hA3:=hA3.mono aN.1
     replace aB:=aB.mono aN.1
     replace aH:=aH.mono aN.1
     replace a8:=Frz.le_trans a8 aN.1
     replace a9:=Frz.le_trans a9 aN.1
     refine A7<|Ak<|A7<|Ak<|A7<|Ax hF ?_
     obtain rfl:=Ao h
     replace hS:=hS.d3.d2
     exact .inr ⟨_,rfl,rfl,ν563,bQ,bS,hext,hlow,bV,hS⟩
    rintro a0 bN w a he_ ⟨ν557,b5,b6,aM,hlow,rfl,bK,hS⟩ hF
    replace h:=Fo h he_
    replace hext:=Frz.ext_trans hext aM
    replace hA3:=hA3.mono aM.1
    replace aB:=aB.mono aM.1
    replace aH:=aH.mono aM.1
    replace a8:=Frz.le_trans a8 aM.1
    replace a9:=Frz.le_trans a9 aM.1
    refine SK.wi (Kp (t:=146) (fun aK=>[(0,pb cb0),(1,iv p1),(3,.func (.func 98) #[pb cb0] #[]),(6,pb b4),(9,sv a6 a3 a7),(11,pb aK),(38,.agg #[iv a0.1.Lo,iv a0.1.Hi])]) #[iv 0,iv 0] hF hS kr ⟨kr⟩ kr (fun _=>⟨kr⟩) fun aK w a hF hS=>?_)
    refine SK.wi (Kc (t:=146) [(0,pb cb0),(1,iv p1),(3,.func (.func 98) #[pb cb0] #[]),(6,pb b4),(9,sv a6 a3 a7),(11,pb aK)] 0 0 (.agg #[iv a0.1.Lo,iv a0.1.Hi]) #[iv a0.1.Lo,iv a0.1.Hi] hF hS rfl kr ⟨kr⟩ kr kr kr kr ⟨kr⟩ fun w a hF hS=>?_)
    refine wfn rfl ?_
    refine D9 (fun a w=>Fr 49 [] [(0,pb cb0),(1,iv p1),(3,.func (.func 98) #[pb cb0] #[]),(6,pb b4),(9,sv a6 a3 a7),(11,pb aK)] a∧St w0 (blk aK 146 #[iv a0.1.Lo,iv a0.1.Hi]::fz w0 ν557::blk cb0 125 #[sv b5 a0.2.b b6]::arr 146 2 api_Span.cells a6 a3.length a7 a3::blk b4 146 #[iv a1,iv a2]::T_) w∧Dv k2 a3 a0=some res) ?_ ?_
    ·skip
     refine roB [(0,pb cb0),(1,iv p1),(3,.func (.func 98) #[pb cb0] #[]),(6,pb b4),(9,sv a6 a3 a7),(11,pb aK),(41,.bool (((a0.1.Lo:Int)==a1)&&(((a0.1.Hi:Int)==a2)&&true)))] hF (oN 146 0 0 2 hS.i rfl<|oN 146 4 0 2 hS.i rfl<|oX (.run [] (eqS .eql 146 #[iv a0.1.Lo,iv a0.1.Hi] #[iv a1,iv a2]) (.bool (((a0.1.Lo:Int)==a1)&&(((a0.1.Hi:Int)==a2)&&true)))) (Lf kr kr)<|A9) fun a hF=>?_
     refine Aj hF rfl (fun hc=>?_) (fun hc=>?_)
     ·replace h:=Af h hc
      refine WI.region ?_
      refine qn 1 1 [(42,.iface 128 (iv 7))] hF fun a hF=>?_
      refine Ny (t:=128) (v:=iv 7) hF ⟨kr⟩ (A7<|Ak<|A7<|Ak<|A7<|Ax hF ?_)
      obtain rfl:=Ao h
      replace hS:=hS.d4.d3.d0
      exact .inr ⟨_,rfl,rfl,ν557,b5,b6,hext,hlow,bK,hS⟩
     ·replace h:=Ae h hc
      refine wpIn_skip (A0 ?_)
      exact ⟨hF.sub kr,hS,h⟩
    rintro a w ⟨hF,hS,h⟩
    rw [Dv] at h
    refine esr ?_
    refine qo 1 1 [(43,.agg #[iv a0.1.Lo,iv a0.1.Hi])] hF (oN 146 0 0 2 hS.i rfl<|A9) fun a hF=>?_
    refine SK.wi (qS 146 4 0 (.agg #[iv a0.1.Lo,iv a0.1.Hi]) #[iv a0.1.Lo,iv a0.1.Hi] hF hS rfl fun w a hF hS=>?_)
    refine wfn rfl ?_
    refine WI.region ?_
    refine qo 2 2 [(44,sv a6 a3 a7),(45,.agg #[iv a0.1.Lo,iv a0.1.Hi])] hF (oN 146 0 0 2 hS.i rfl<|A9) fun a hF=>?_
    refine SK.wi (Fe (e:=146) (sz:=2) (f:=api_Span.cells) (t:=44) (len:=1) (fun bF=>[(0,pb cb0),(1,iv p1),(3,.func (.func 98) #[pb cb0] #[]),(6,pb b4),(9,sv a6 a3 a7),(44,sv a6 a3 a7),(46,sb bF 1)]) #[(0,.agg #[iv a0.1.Lo,iv a0.1.Hi])] #[iv a0.1.Lo,iv a0.1.Hi] ([(api_Span.mk a0.1.Lo a0.1.Hi)]) hF hS kr ⟨kr⟩ kr api_Span.cells_len rfl rfl kr (fun _=>⟨kr⟩) fun bF w a hF hS=>?_)
    obtain ⟨b9,bW,h⟩:=A1 h
    refine SK.wi (Lq (t:=44) (ty:=44) (bytes:=16) (l:=a3) (l':=([(api_Span.mk a0.1.Lo a0.1.Hi)])) (fun aX b0=>[(0,pb cb0),(1,iv p1),(3,.func (.func 98) #[pb cb0] #[]),(6,pb b4),(9,sv a6 a3 a7),(47,sv aX b9 b0)]) 4 hF hS rfl kr ⟨kr⟩ kr (hS.arr (i:=0) rfl) (fun _ _=>rfl) bW (fun _ _=>⟨kr⟩) fun aX b0 w a hF hS=>?_)
    refine rn 1 5 [(0,pb cb0),(1,iv p1),(3,.func (.func 98) #[pb cb0] #[]),(6,pb b4),(9,sv aX b9 b0)] hF fun a hF=>?_
    refine WI.fin rfl (Ab<|A0<|?_)
    rw [hk2] at h
    exact ⟨nk2,Nat.lt_succ_self _,a0.1.Lo,a0.1.Hi,a0.2.b,b9,ν557,b5,b6,aX,b0,hF.sub kr,hS.d1.d0.s3.s3,bK,a9,hext,hlow,h⟩
   ·replace h:=Ae h hc
    refine wpIn_skip (Ab<|A0<|?_)
    rw [hk2] at h
    exact ⟨nk2,Nat.lt_succ_self _,a1,a2,a4.2.b,a3,ν515,aP,aR,a6,a7,hF.sub kr,hS.s3.s1,aH,a9,hext,hlow,h⟩
  ·replace h:=Ae h hc
   refine wpIn_exit (Aa<|Aa<|Av<|A0 ?_)
   exact ⟨a1,a2,aO,a5,ν500,aW,aZ,aC,aD,hF.sub kr,hS,aB,a8,hext,hlow,h⟩
 clear a8
 rintro a w ⟨bA,bB,b2,aI,ν295,aV,aY,aJ,aL,hF,hS,b7,b8,hext,hlow,h⟩
 replace hA3:=hA3.mono b8
 rw [Dr] at h
 refine rnB [(8,sv aJ aI aL)] hF fun a hF=>?_
 refine wpIn_ret (Ad [.tmp 8] [sv aJ aI aL] hF rfl ⟨rfl,trivial⟩ ?_)
 obtain ⟨ν306,b1,hlow,hS,c2⟩:=hS.freeze (i:=2) (j:=0) rfl rfl (by decide) hlow
 replace hA3:=hA3.mono b1.1
 replace b7:=b7.mono b1.1
 replace b8:=Frz.le_trans b8 b1.1
 replace hext:=Frz.ext_trans hext b1
 have bT:=ArrM.of_arr c2
 obtain rfl:=Ao h
 replace hS:=hS.d0
 exact .inl ⟨_,_,rfl,rfl,ν306,aJ,aL,aV,aY,hext,hlow,rfl,bT,b7,hS⟩
theorem Nd (F:Nat) (p0:volume_reader) (res:Except (Value×volume_reader) (volume_thing×volume_reader)) (h:He F p0=some res) (μ:Frz) (w0 w1:World) (T_:List Res) (hlow:B4 w0 μ) {cb0:Nat} {ad1:Option Addr} {cap2:Nat} (hA3:ArrM μ 1 (fK .u8) ad1 cap2 p0.b) (hS:St w0 (fz w0 μ::blk cb0 125 #[sv ad1 p0.b cap2]::T_) w1):Nk Tryz.prog 70 #[pb cb0] w1 res (fun r_ e w=>∃(ν_:Frz) (eE:Value) (dO:Option Addr) (dS:Nat),μ.ext w0.heap.size ν_∧B4 w0 ν_∧e=(eE)∧volume_thing.R ν_ eE r_.1∧(ArrM ν_ 1 (fK .u8) dO dS r_.2.b)∧St w0 (fz w0 ν_::blk cb0 125 #[sv dO r_.2.b dS]::T_) w) (fun e_ w=>∃(ν_:Frz) (dP:Option Addr) (dT:Nat),μ.ext w0.heap.size ν_∧B4 w0 ν_∧(ArrM ν_ 1 (fK .u8) dP dT e_.b)∧St w0 (fz w0 ν_::blk cb0 125 #[sv dP e_.b dT]::T_) w):=by
 rw [He] at h
 have hext:=Frz.ext_refl w0.heap.size μ
 refine Ag Tryz.func70 rfl 155 [(0,pb cb0)] rfl rfl kr fun a w hw hF=>?_
 replace hS:=hS.cast hw
 clear hw
 refine qnB [] hF fun a hF=>?_
 have a1:=Frz.le_refl μ
 refine D9 (fun a w=>∃(d9:(List Int)) (ν600:Frz) (cS:Option Addr) (cV:Nat),Fr 155 [] [] a∧St w0 (fz w0 ν600::blk cb0 125 #[sv cS d9 cV]::T_) w∧(ArrM ν600 1 (fK .u8) cS cV d9)∧(μ.le ν600)∧(μ.ext w0.heap.size ν600)∧(B4 w0 ν600)∧Ga d9=some res) ?_ ?_
 ·skip
  refine esr ?_
  refine qn 1 1 [(9,pb cb0)] hF fun a hF=>?_
  obtain ⟨k3,hM,h⟩:=A1 h
  refine Db (fun eF=>[(0,pb cb0),(10,eF)]) hF kr ⟨kr⟩ (Al F _ _ hM μ w0 w _ hlow hA3 hS) (fun _=>⟨kr⟩) ?_ ?_
  ·rintro jE w he_ ⟨ν616,f6,g0,dH,hlow,gR,hS⟩
   replace h:=Fm h he_
   replace hext:=Frz.ext_trans hext dH
   replace hA3:=hA3.mono dH.1
   replace a1:=Frz.le_trans a1 dH.1
   refine A7<|A7<|Ax hF ?_
   obtain rfl:=Ao h
   replace hS:=hS
   exact .inr ⟨_,rfl,rfl,ν616,f6,g0,hext,hlow,gR,hS⟩
  rintro cR eF w a he_ ⟨ν610,f5,fZ,dG,hlow,rfl,a2,hS⟩ hF
  replace h:=Fo h he_
  replace hext:=Frz.ext_trans hext dG
  replace hA3:=hA3.mono dG.1
  replace a1:=Frz.le_trans a1 dG.1
  refine wfn rfl ?_
  refine wpIn_block ?_
  refine rnB [(0,pb cb0),(10,iv cR.1),(11,.bool (cR.1==1))] hF fun a hF=>?_
  refine Aj hF rfl (fun hc=>?_) (fun hc=>?_)
  ·replace h:=Af h hc
   refine esr ?_
   refine SK.wi (qA 41 #[.string ByteArray.empty,iv 0,iv 0,iv 0,iv 0,iv 0,iv 0,iv 0,iv 0,iv 0,.slice none 0 0] (fun a0=>[(3,pb a0)]) hF hS fun a0 w a hF hS=>?_)
   refine wfn rfl ?_
   refine esr ?_
   refine qn 1 1 [(13,pb cb0)] hF fun a hF=>?_
   obtain ⟨k5,hN,h⟩:=A1 h
   replace hS:=hS.s2.s2
   refine Db (fun eG=>[(0,pb cb0),(3,pb a0),(14,eG)]) hF kr ⟨kr⟩ (Gl F _ _ hN ν610 w0 w _ hlow a2 hS) (fun _=>⟨kr⟩) ?_ ?_
   ·rintro jF w he_ ⟨ν631,f7,g1,d8,hlow,gS,hS⟩
    replace h:=Fm h he_
    replace hext:=Frz.ext_trans hext d8
    replace hA3:=hA3.mono d8.1
    replace a2:=a2.mono d8.1
    replace a1:=Frz.le_trans a1 d8.1
    refine A7<|Ak<|A7<|Ax hF ?_
    obtain rfl:=Ao h
    replace hS:=hS.d2
    exact .inr ⟨_,rfl,rfl,ν631,f7,g1,hext,hlow,gS,hS⟩
   rintro aK eG w a he_ ⟨ν625,iE,iU,d7,hlow,rfl,a4,hS⟩ hF
   replace h:=Fo h he_
   replace hext:=Frz.ext_trans hext d7
   replace hA3:=hA3.mono d7.1
   replace a2:=a2.mono d7.1
   replace a1:=Frz.le_trans a1 d7.1
   refine rn 2 4 [(0,pb cb0),(3,pb a0),(14,.string aK.1),(16,pb a0)] hF fun a hF=>?_
   refine SK.wi (qs 9 2 0 (.string aK.1) hF hS rfl fun w a hF hS=>?_)
   refine wfn rfl ?_
   refine esr ?_
   refine qn 1 1 [(17,pb cb0)] hF fun a hF=>?_
   obtain ⟨k6,hO,h⟩:=A1 h
   refine Db (fun eH=>[(0,pb cb0),(3,pb a0),(18,eH)]) hF kr ⟨kr⟩ (D2 F _ _ hO ν625 w0 w _ hlow a4 hS) (fun _=>⟨kr⟩) ?_ ?_
   ·rintro jG w he_ ⟨ν645,f8,g2,cO,hlow,gT,hS⟩
    replace h:=Fm h he_
    replace hext:=Frz.ext_trans hext cO
    replace hA3:=hA3.mono cO.1
    replace a2:=a2.mono cO.1
    replace a4:=a4.mono cO.1
    replace a1:=Frz.le_trans a1 cO.1
    refine A7<|Ak<|A7<|Ax hF ?_
    obtain rfl:=Ao h
    replace hS:=hS.d2
    exact .inr ⟨_,rfl,rfl,ν645,f8,g2,hext,hlow,gT,hS⟩
   rintro aH eH w a he_ ⟨ν639,iF,iV,cN,hlow,rfl,a5,hS⟩ hF
   replace h:=Fo h he_
   replace hext:=Frz.ext_trans hext cN
   replace hA3:=hA3.mono cN.1
   replace a2:=a2.mono cN.1
   replace a4:=a4.mono cN.1
   replace a1:=Frz.le_trans a1 cN.1
   refine rn 1 3 [(0,pb cb0),(3,pb a0),(18,iv aH.1),(19,pb cb0)] hF fun a hF=>?_
   obtain ⟨k7,hP,h⟩:=A1 h
   refine Db (fun eI=>[(0,pb cb0),(3,pb a0),(18,iv aH.1),(20,eI)]) hF kr ⟨kr⟩ (D2 F _ _ hP ν639 w0 w _ hlow a5 hS) (fun _=>⟨kr⟩) ?_ ?_
   ·rintro jH w he_ ⟨ν659,f9,g3,cE,hlow,gU,hS⟩
    replace h:=Fm h he_
    replace hext:=Frz.ext_trans hext cE
    replace hA3:=hA3.mono cE.1
    replace a2:=a2.mono cE.1
    replace a4:=a4.mono cE.1
    replace a5:=a5.mono cE.1
    replace a1:=Frz.le_trans a1 cE.1
    refine A7<|Ak<|A7<|Ax hF ?_
    obtain rfl:=Ao h
    replace hS:=hS.d2
    exact .inr ⟨_,rfl,rfl,ν659,f9,g3,hext,hlow,gU,hS⟩
   rintro aL eI w a he_ ⟨ν653,iG,iW,cD,hlow,rfl,a7,hS⟩ hF
   replace h:=Fo h he_
   replace hext:=Frz.ext_trans hext cD
   replace hA3:=hA3.mono cD.1
   replace a2:=a2.mono cD.1
   replace a4:=a4.mono cD.1
   replace a5:=a5.mono cD.1
   replace a1:=Frz.le_trans a1 cD.1
   refine rn 2 6 [(0,pb cb0),(3,pb a0),(18,iv aH.1),(20,iv aL.1),(22,.pointer (some ⟨a0,1,none⟩))] hF fun a hF=>?_
   refine SK.wi (qs 3 2 1 (iv aH.1) hF hS rfl fun w a hF hS=>?_)
   refine qn 2 9 [(24,.pointer (some ⟨a0,2,none⟩))] hF fun a hF=>?_
   refine SK.wi (qs 3 2 2 (iv aL.1) hF hS rfl fun w a hF hS=>?_)
   refine wfn rfl ?_
   have a8:=Frz.le_refl ν653
   refine D9 (fun a w=>∃(aN:Int) (aO:Int) (a6:Int) (aP:Int) (aQ:Int) (aR:Int) (aS:Int) (dA:(List Int)) (ν763:Frz) (cT:Option Addr) (cW:Nat),Fr 155 [] [(0,pb cb0),(3,pb a0)] a∧St w0 (fz w0 ν763::blk cb0 125 #[sv cT dA cW]::blk a0 41 #[.string aK.1,iv aH.1,iv aL.1,iv aN,iv aO,iv a6,iv aP,iv aQ,iv aR,iv aS,.slice none 0 0]::T_) w∧(ArrM ν763 1 (fK .u8) cT cW dA)∧(ν653.le ν763)∧(μ.ext w0.heap.size ν763)∧(B4 w0 ν763)∧Gb F aK aH aL aN aO a6 aP aQ aR aS dA=some res) ?_ ?_
   ·skip
    refine esr ?_
    refine qn 12 12 [(26,.pointer (some ⟨a0,3,none⟩)),(28,.pointer (some ⟨a0,4,none⟩)),(30,.pointer (some ⟨a0,5,none⟩)),(32,.pointer (some ⟨a0,6,none⟩)),(34,.pointer (some ⟨a0,7,none⟩)),(35,.pointer (some ⟨a0,8,none⟩)),(36,.pointer (some ⟨a0,9,none⟩))] hF fun a hF=>?_
    refine SK.wi (Fe (e:=164) (sz:=1) (f:=fV) (t:=165) (len:=7) (fun a3=>[(0,pb cb0),(3,pb a0),(37,sb a3 7)]) #[(0,.pointer (some ⟨a0,3,none⟩)),(1,.pointer (some ⟨a0,4,none⟩)),(2,.pointer (some ⟨a0,5,none⟩)),(3,.pointer (some ⟨a0,6,none⟩)),(4,.pointer (some ⟨a0,7,none⟩)),(5,.pointer (some ⟨a0,8,none⟩)),(6,.pointer (some ⟨a0,9,none⟩))] #[.pointer (some ⟨a0,3,none⟩),.pointer (some ⟨a0,4,none⟩),.pointer (some ⟨a0,5,none⟩),.pointer (some ⟨a0,6,none⟩),.pointer (some ⟨a0,7,none⟩),.pointer (some ⟨a0,8,none⟩),.pointer (some ⟨a0,9,none⟩)] ([(.pointer (some ⟨a0,3,none⟩)),(.pointer (some ⟨a0,4,none⟩)),(.pointer (some ⟨a0,5,none⟩)),(.pointer (some ⟨a0,6,none⟩)),(.pointer (some ⟨a0,7,none⟩)),(.pointer (some ⟨a0,8,none⟩)),(.pointer (some ⟨a0,9,none⟩))]:List Value) hF hS kr ⟨kr⟩ kr Pl rfl rfl kr (fun _=>⟨kr⟩) fun a3 w a hF hS=>?_)
    refine rn 2 15 [(0,pb cb0),(3,pb a0),(37,sb a3 7),(38,iv ((7:Nat):Int)),(39,iv 0)] hF fun a hF=>?_
    refine wfn rfl ?_
    refine wpIn_block ?_
    refine A1b 8 ?_
    refine My ?_
    refine qnB [(40,.bool true)] hF fun a hF=>?_
    refine Ar ?_
    refine wpIn_cond_true (hF.get rfl) ?_
    refine wpIn_skip (A0 ?_)
    refine Ar ?_
    refine wpIn_block ?_
    refine qoB [(5,.pointer (some ⟨a0,3,none⟩))] hF (oX (.run [] (Instr.indexAt 165 (sb a3 7) (iv 0)) (.pointer (some (Bc (some ⟨a3,0,none⟩) 0 1)))) (Gj (i:=0) (hS.arr (i:=0) rfl) kr (u:=.pointer (some ⟨a0,3,none⟩)) (fun _=>rfl))<|oX (.run [] (Instr.loadAt 164 (.pointer (some (Bc (some ⟨a3,0,none⟩) 0 1)))) (.pointer (some ⟨a0,3,none⟩))) (Pr (i:=0) 0 Pl (fun _ hd=>((hS.at_ hd).arr (i:=0) rfl)) kr (fun _=>rfl) rfl)<|A9) fun a hF=>?_
    refine WI.region ?_
    refine qn 2 2 [(43,.pointer (some ⟨a0,3,none⟩)),(44,pb cb0)] hF fun a hF=>?_
    obtain ⟨kB,hU,h⟩:=A1 h
    replace hS:=hS.s2.s2
    refine Db (fun eK=>[(0,pb cb0),(3,pb a0),(37,sb a3 7),(38,iv ((7:Nat):Int)),(39,iv 0),(43,.pointer (some ⟨a0,3,none⟩)),(45,eK)]) hF kr ⟨kr⟩ (Al F _ _ hU ν653 w0 w _ hlow a7 hS) (fun _=>⟨kr⟩) ?_ ?_
    ·rintro jJ w he_ ⟨ν966,fB,g5,c1,hlow,gZ,hS⟩
     replace h:=Fm h he_
     replace hext:=Frz.ext_trans hext c1
     replace hA3:=hA3.mono c1.1
     replace a2:=a2.mono c1.1
     replace a4:=a4.mono c1.1
     replace a5:=a5.mono c1.1
     replace a7:=a7.mono c1.1
     replace a1:=Frz.le_trans a1 c1.1
     replace a8:=Frz.le_trans a8 c1.1
     refine Ak<|A7<|A7<|Ak<|A7<|Ak<|A7<|Ax hF ?_
     obtain rfl:=Ao h
     replace hS:=hS.d3.d2
     exact .inr ⟨_,rfl,rfl,ν966,fB,g5,hext,hlow,gZ,hS⟩
    rintro dL eK w a he_ ⟨ν960,iH,iX,c0,hlow,rfl,aC,hS⟩ hF
    replace h:=Fo h he_
    replace hext:=Frz.ext_trans hext c0
    replace hA3:=hA3.mono c0.1
    replace a2:=a2.mono c0.1
    replace a4:=a4.mono c0.1
    replace a5:=a5.mono c0.1
    replace a7:=a7.mono c0.1
    replace a1:=Frz.le_trans a1 c0.1
    replace a8:=Frz.le_trans a8 c0.1
    refine rn 1 4 [(0,pb cb0),(3,pb a0),(37,sb a3 7),(38,iv ((7:Nat):Int)),(39,iv 0),(45,iv dL.1),(46,.pointer (some ⟨a0,3,none⟩))] hF fun a hF=>?_
    refine SK.wi (qs 3 3 3 (iv dL.1) hF hS rfl fun w a hF hS=>?_)
    refine WI.fin rfl (Ab<|A0<|?_)
    refine WI.region ?_
    refine ro 2 2 [(0,pb cb0),(3,pb a0),(37,sb a3 7),(38,iv ((7:Nat):Int)),(39,iv 1)] hF (oX (.run [] (binOp .add 3 (iv 0) (iv 1)) (iv 1)) (Bh kr)<|A9) fun a hF=>?_
    refine wfn rfl ?_
    refine My ?_
    refine qnB [(40,.bool true)] hF fun a hF=>?_
    refine Ar ?_
    refine wpIn_cond_true (hF.get rfl) ?_
    refine wpIn_skip (A0 ?_)
    refine Ar ?_
    refine wpIn_block ?_
    refine qoB [(5,.pointer (some ⟨a0,4,none⟩))] hF (oX (.run [] (Instr.indexAt 165 (sb a3 7) (iv 1)) (.pointer (some (Bc (some ⟨a3,0,none⟩) 1 1)))) (Gj (i:=1) (hS.arr (i:=2) rfl) kr (u:=.pointer (some ⟨a0,4,none⟩)) (fun _=>rfl))<|oX (.run [] (Instr.loadAt 164 (.pointer (some (Bc (some ⟨a3,0,none⟩) 1 1)))) (.pointer (some ⟨a0,4,none⟩))) (Pr (i:=1) 0 Pl (fun _ hd=>((hS.at_ hd).arr (i:=2) rfl)) kr (fun _=>rfl) rfl)<|A9) fun a hF=>?_
    refine WI.region ?_
    refine qn 2 2 [(43,.pointer (some ⟨a0,4,none⟩)),(44,pb cb0)] hF fun a hF=>?_
    obtain ⟨kC,hV,h⟩:=A1 h
    refine Db (fun eL=>[(0,pb cb0),(3,pb a0),(37,sb a3 7),(38,iv ((7:Nat):Int)),(39,iv 1),(43,.pointer (some ⟨a0,4,none⟩)),(45,eL)]) hF kr ⟨kr⟩ (Al F _ _ hV ν960 w0 w _ hlow aC hS) (fun _=>⟨kr⟩) ?_ ?_
    ·rintro jK w he_ ⟨ν980,fC,g6,bO,hlow,h0,hS⟩
     replace h:=Fm h he_
     replace hext:=Frz.ext_trans hext bO
     replace hA3:=hA3.mono bO.1
     replace a2:=a2.mono bO.1
     replace a4:=a4.mono bO.1
     replace a5:=a5.mono bO.1
     replace a7:=a7.mono bO.1
     replace aC:=aC.mono bO.1
     replace a1:=Frz.le_trans a1 bO.1
     replace a8:=Frz.le_trans a8 bO.1
     refine Ak<|A7<|A7<|Ak<|A7<|Ak<|A7<|Ax hF ?_
     obtain rfl:=Ao h
     replace hS:=hS.d3.d2
     exact .inr ⟨_,rfl,rfl,ν980,fC,g6,hext,hlow,h0,hS⟩
    rintro dM eL w a he_ ⟨ν974,iI,iY,bN,hlow,rfl,aG,hS⟩ hF
    replace h:=Fo h he_
    replace hext:=Frz.ext_trans hext bN
    replace hA3:=hA3.mono bN.1
    replace a2:=a2.mono bN.1
    replace a4:=a4.mono bN.1
    replace a5:=a5.mono bN.1
    replace a7:=a7.mono bN.1
    replace aC:=aC.mono bN.1
    replace a1:=Frz.le_trans a1 bN.1
    replace a8:=Frz.le_trans a8 bN.1
    refine rn 1 4 [(0,pb cb0),(3,pb a0),(37,sb a3 7),(38,iv ((7:Nat):Int)),(39,iv 1),(45,iv dM.1),(46,.pointer (some ⟨a0,4,none⟩))] hF fun a hF=>?_
    refine SK.wi (qs 3 3 4 (iv dM.1) hF hS rfl fun w a hF hS=>?_)
    refine WI.fin rfl (Ab<|A0<|?_)
    refine WI.region ?_
    refine ro 2 2 [(0,pb cb0),(3,pb a0),(37,sb a3 7),(38,iv ((7:Nat):Int)),(39,iv 2)] hF (oX (.run [] (binOp .add 3 (iv 1) (iv 1)) (iv 2)) (Bh kr)<|A9) fun a hF=>?_
    refine wfn rfl ?_
    refine My ?_
    refine qnB [(40,.bool true)] hF fun a hF=>?_
    refine Ar ?_
    refine wpIn_cond_true (hF.get rfl) ?_
    refine wpIn_skip (A0 ?_)
    refine Ar ?_
    refine wpIn_block ?_
    refine qoB [(5,.pointer (some ⟨a0,5,none⟩))] hF (oX (.run [] (Instr.indexAt 165 (sb a3 7) (iv 2)) (.pointer (some (Bc (some ⟨a3,0,none⟩) 2 1)))) (Gj (i:=2) (hS.arr (i:=2) rfl) kr (u:=.pointer (some ⟨a0,5,none⟩)) (fun _=>rfl))<|oX (.run [] (Instr.loadAt 164 (.pointer (some (Bc (some ⟨a3,0,none⟩) 2 1)))) (.pointer (some ⟨a0,5,none⟩))) (Pr (i:=2) 0 Pl (fun _ hd=>((hS.at_ hd).arr (i:=2) rfl)) kr (fun _=>rfl) rfl)<|A9) fun a hF=>?_
    refine WI.region ?_
    refine qn 2 2 [(43,.pointer (some ⟨a0,5,none⟩)),(44,pb cb0)] hF fun a hF=>?_
    obtain ⟨kD,hW,h⟩:=A1 h
    refine Db (fun eM=>[(0,pb cb0),(3,pb a0),(37,sb a3 7),(38,iv ((7:Nat):Int)),(39,iv 2),(43,.pointer (some ⟨a0,5,none⟩)),(45,eM)]) hF kr ⟨kr⟩ (Al F _ _ hW ν974 w0 w _ hlow aG hS) (fun _=>⟨kr⟩) ?_ ?_
    ·rintro jL w he_ ⟨ν994,fD,g7,bG,hlow,h1,hS⟩
     replace h:=Fm h he_
     replace hext:=Frz.ext_trans hext bG
     replace hA3:=hA3.mono bG.1
     replace a2:=a2.mono bG.1
     replace a4:=a4.mono bG.1
     replace a5:=a5.mono bG.1
     replace a7:=a7.mono bG.1
     replace aC:=aC.mono bG.1
     replace aG:=aG.mono bG.1
     replace a1:=Frz.le_trans a1 bG.1
     replace a8:=Frz.le_trans a8 bG.1
     refine Ak<|A7<|A7<|Ak<|A7<|Ak<|A7<|Ax hF ?_
     obtain rfl:=Ao h
     replace hS:=hS.d3.d2
     exact .inr ⟨_,rfl,rfl,ν994,fD,g7,hext,hlow,h1,hS⟩
    rintro dN eM w a he_ ⟨ν988,iJ,iZ,bF,hlow,rfl,aJ,hS⟩ hF
    replace h:=Fo h he_
    replace hext:=Frz.ext_trans hext bF
    replace hA3:=hA3.mono bF.1
    replace a2:=a2.mono bF.1
    replace a4:=a4.mono bF.1
    replace a5:=a5.mono bF.1
    replace a7:=a7.mono bF.1
    replace aC:=aC.mono bF.1
    replace aG:=aG.mono bF.1
    replace a1:=Frz.le_trans a1 bF.1
    replace a8:=Frz.le_trans a8 bF.1
    refine rn 1 4 [(0,pb cb0),(3,pb a0),(37,sb a3 7),(38,iv ((7:Nat):Int)),(39,iv 2),(45,iv dN.1),(46,.pointer (some ⟨a0,5,none⟩))] hF fun a hF=>?_
    refine SK.wi (qs 3 3 5 (iv dN.1) hF hS rfl fun w a hF hS=>?_)
    refine WI.fin rfl (Ab<|A0<|?_)
    refine WI.region ?_
    refine ro 2 2 [(0,pb cb0),(3,pb a0),(37,sb a3 7),(38,iv ((7:Nat):Int)),(39,iv 3)] hF (oX (.run [] (binOp .add 3 (iv 2) (iv 1)) (iv 3)) (Bh kr)<|A9) fun a hF=>?_
    refine wfn rfl ?_
    refine My ?_
    refine qnB [(40,.bool true)] hF fun a hF=>?_
    refine Ar ?_
    refine wpIn_cond_true (hF.get rfl) ?_
    refine wpIn_skip (A0 ?_)
    refine Ar ?_
    refine wpIn_block ?_
    refine qoB [(5,.pointer (some ⟨a0,6,none⟩))] hF (oX (.run [] (Instr.indexAt 165 (sb a3 7) (iv 3)) (.pointer (some (Bc (some ⟨a3,0,none⟩) 3 1)))) (Gj (i:=3) (hS.arr (i:=2) rfl) kr (u:=.pointer (some ⟨a0,6,none⟩)) (fun _=>rfl))<|oX (.run [] (Instr.loadAt 164 (.pointer (some (Bc (some ⟨a3,0,none⟩) 3 1)))) (.pointer (some ⟨a0,6,none⟩))) (Pr (i:=3) 0 Pl (fun _ hd=>((hS.at_ hd).arr (i:=2) rfl)) kr (fun _=>rfl) rfl)<|A9) fun a hF=>?_
    refine WI.region ?_
    refine qn 2 2 [(43,.pointer (some ⟨a0,6,none⟩)),(44,pb cb0)] hF fun a hF=>?_
    obtain ⟨kE,hX,h⟩:=A1 h
    refine Db (fun e0=>[(0,pb cb0),(3,pb a0),(37,sb a3 7),(38,iv ((7:Nat):Int)),(39,iv 3),(43,.pointer (some ⟨a0,6,none⟩)),(45,e0)]) hF kr ⟨kr⟩ (Al F _ _ hX ν988 w0 w _ hlow aJ hS) (fun _=>⟨kr⟩) ?_ ?_
    ·rintro j0 w he_ ⟨ν1008,eN,fE,b6,hlow,g8,hS⟩
     replace h:=Fm h he_
     replace hext:=Frz.ext_trans hext b6
     replace hA3:=hA3.mono b6.1
     replace a2:=a2.mono b6.1
     replace a4:=a4.mono b6.1
     replace a5:=a5.mono b6.1
     replace a7:=a7.mono b6.1
     replace aC:=aC.mono b6.1
     replace aG:=aG.mono b6.1
     replace aJ:=aJ.mono b6.1
     replace a1:=Frz.le_trans a1 b6.1
     replace a8:=Frz.le_trans a8 b6.1
     refine Ak<|A7<|A7<|Ak<|A7<|Ak<|A7<|Ax hF ?_
     obtain rfl:=Ao h
     replace hS:=hS.d3.d2
     exact .inr ⟨_,rfl,rfl,ν1008,eN,fE,hext,hlow,g8,hS⟩
    rintro dI e0 w a he_ ⟨ν1002,i4,iK,b5,hlow,rfl,aV,hS⟩ hF
    replace h:=Fo h he_
    replace hext:=Frz.ext_trans hext b5
    replace hA3:=hA3.mono b5.1
    replace a2:=a2.mono b5.1
    replace a4:=a4.mono b5.1
    replace a5:=a5.mono b5.1
    replace a7:=a7.mono b5.1
    replace aC:=aC.mono b5.1
    replace aG:=aG.mono b5.1
    replace aJ:=aJ.mono b5.1
    replace a1:=Frz.le_trans a1 b5.1
    replace a8:=Frz.le_trans a8 b5.1
    refine rn 1 4 [(0,pb cb0),(3,pb a0),(37,sb a3 7),(38,iv ((7:Nat):Int)),(39,iv 3),(45,iv dI.1),(46,.pointer (some ⟨a0,6,none⟩))] hF fun a hF=>?_
    refine SK.wi (qs 3 3 6 (iv dI.1) hF hS rfl fun w a hF hS=>?_)
    refine WI.fin rfl (Ab<|A0<|?_)
    refine WI.region ?_
    refine ro 2 2 [(0,pb cb0),(3,pb a0),(37,sb a3 7),(38,iv ((7:Nat):Int)),(39,iv 4)] hF (oX (.run [] (binOp .add 3 (iv 3) (iv 1)) (iv 4)) (Bh kr)<|A9) fun a hF=>?_
    refine wfn rfl ?_
    refine My ?_
    refine qnB [(40,.bool true)] hF fun a hF=>?_
    refine Ar ?_
    refine wpIn_cond_true (hF.get rfl) ?_
    refine wpIn_skip (A0 ?_)
    refine Ar ?_
    refine wpIn_block ?_
    refine qoB [(5,.pointer (some ⟨a0,7,none⟩))] hF (oX (.run [] (Instr.indexAt 165 (sb a3 7) (iv 4)) (.pointer (some (Bc (some ⟨a3,0,none⟩) 4 1)))) (Gj (i:=4) (hS.arr (i:=2) rfl) kr (u:=.pointer (some ⟨a0,7,none⟩)) (fun _=>rfl))<|oX (.run [] (Instr.loadAt 164 (.pointer (some (Bc (some ⟨a3,0,none⟩) 4 1)))) (.pointer (some ⟨a0,7,none⟩))) (Pr (i:=4) 0 Pl (fun _ hd=>((hS.at_ hd).arr (i:=2) rfl)) kr (fun _=>rfl) rfl)<|A9) fun a hF=>?_
    refine WI.region ?_
    refine qn 2 2 [(43,.pointer (some ⟨a0,7,none⟩)),(44,pb cb0)] hF fun a hF=>?_
    obtain ⟨jO,h7,h⟩:=A1 h
    refine Db (fun e1=>[(0,pb cb0),(3,pb a0),(37,sb a3 7),(38,iv ((7:Nat):Int)),(39,iv 4),(43,.pointer (some ⟨a0,7,none⟩)),(45,e1)]) hF kr ⟨kr⟩ (Al F _ _ h7 ν1002 w0 w _ hlow aV hS) (fun _=>⟨kr⟩) ?_ ?_
    ·rintro j1 w he_ ⟨ν1022,eO,fF,b2,hlow,g9,hS⟩
     replace h:=Fm h he_
     replace hext:=Frz.ext_trans hext b2
     replace hA3:=hA3.mono b2.1
     replace a2:=a2.mono b2.1
     replace a4:=a4.mono b2.1
     replace a5:=a5.mono b2.1
     replace a7:=a7.mono b2.1
     replace aC:=aC.mono b2.1
     replace aG:=aG.mono b2.1
     replace aJ:=aJ.mono b2.1
     replace aV:=aV.mono b2.1
     replace a1:=Frz.le_trans a1 b2.1
     replace a8:=Frz.le_trans a8 b2.1
     refine Ak<|A7<|A7<|Ak<|A7<|Ak<|A7<|Ax hF ?_
     obtain rfl:=Ao h
     replace hS:=hS.d3.d2
     exact .inr ⟨_,rfl,rfl,ν1022,eO,fF,hext,hlow,g9,hS⟩
    rintro dJ e1 w a he_ ⟨ν1016,i5,iL,b1,hlow,rfl,bH,hS⟩ hF
    replace h:=Fo h he_
    replace hext:=Frz.ext_trans hext b1
    replace hA3:=hA3.mono b1.1
    replace a2:=a2.mono b1.1
    replace a4:=a4.mono b1.1
    replace a5:=a5.mono b1.1
    replace a7:=a7.mono b1.1
    replace aC:=aC.mono b1.1
    replace aG:=aG.mono b1.1
    replace aJ:=aJ.mono b1.1
    replace aV:=aV.mono b1.1
    replace a1:=Frz.le_trans a1 b1.1
    replace a8:=Frz.le_trans a8 b1.1
    refine rn 1 4 [(0,pb cb0),(3,pb a0),(37,sb a3 7),(38,iv ((7:Nat):Int)),(39,iv 4),(45,iv dJ.1),(46,.pointer (some ⟨a0,7,none⟩))] hF fun a hF=>?_
    refine SK.wi (qs 3 3 7 (iv dJ.1) hF hS rfl fun w a hF hS=>?_)
    refine WI.fin rfl (Ab<|A0<|?_)
    refine WI.region ?_
    refine ro 2 2 [(0,pb cb0),(3,pb a0),(37,sb a3 7),(38,iv ((7:Nat):Int)),(39,iv 5)] hF (oX (.run [] (binOp .add 3 (iv 4) (iv 1)) (iv 5)) (Bh kr)<|A9) fun a hF=>?_
    refine wfn rfl ?_
    refine My ?_
    refine qnB [(40,.bool true)] hF fun a hF=>?_
    refine Ar ?_
    refine wpIn_cond_true (hF.get rfl) ?_
    refine wpIn_skip (A0 ?_)
    refine Ar ?_
    refine wpIn_block ?_
    refine qoB [(5,.pointer (some ⟨a0,8,none⟩))] hF (oX (.run [] (Instr.indexAt 165 (sb a3 7) (iv 5)) (.pointer (some (Bc (some ⟨a3,0,none⟩) 5 1)))) (Gj (i:=5) (hS.arr (i:=2) rfl) kr (u:=.pointer (some ⟨a0,8,none⟩)) (fun _=>rfl))<|oX (.run [] (Instr.loadAt 164 (.pointer (some (Bc (some ⟨a3,0,none⟩) 5 1)))) (.pointer (some ⟨a0,8,none⟩))) (Pr (i:=5) 0 Pl (fun _ hd=>((hS.at_ hd).arr (i:=2) rfl)) kr (fun _=>rfl) rfl)<|A9) fun a hF=>?_
    refine WI.region ?_
    refine qn 2 2 [(43,.pointer (some ⟨a0,8,none⟩)),(44,pb cb0)] hF fun a hF=>?_
    obtain ⟨jP,h8,h⟩:=A1 h
    refine Db (fun e2=>[(0,pb cb0),(3,pb a0),(37,sb a3 7),(38,iv ((7:Nat):Int)),(39,iv 5),(43,.pointer (some ⟨a0,8,none⟩)),(45,e2)]) hF kr ⟨kr⟩ (Al F _ _ h8 ν1016 w0 w _ hlow bH hS) (fun _=>⟨kr⟩) ?_ ?_
    ·rintro j2 w he_ ⟨ν1036,eP,fG,aY,hlow,gA,hS⟩
     replace h:=Fm h he_
     replace hext:=Frz.ext_trans hext aY
     replace hA3:=hA3.mono aY.1
     replace a2:=a2.mono aY.1
     replace a4:=a4.mono aY.1
     replace a5:=a5.mono aY.1
     replace a7:=a7.mono aY.1
     replace aC:=aC.mono aY.1
     replace aG:=aG.mono aY.1
     replace aJ:=aJ.mono aY.1
     replace aV:=aV.mono aY.1
     replace bH:=bH.mono aY.1
     replace a1:=Frz.le_trans a1 aY.1
     replace a8:=Frz.le_trans a8 aY.1
     refine Ak<|A7<|A7<|Ak<|A7<|Ak<|A7<|Ax hF ?_
     obtain rfl:=Ao h
     replace hS:=hS.d3.d2
     exact .inr ⟨_,rfl,rfl,ν1036,eP,fG,hext,hlow,gA,hS⟩
    rintro dK e2 w a he_ ⟨ν1030,i6,iM,aX,hlow,rfl,cH,hS⟩ hF
    replace h:=Fo h he_
    replace hext:=Frz.ext_trans hext aX
    replace hA3:=hA3.mono aX.1
    replace a2:=a2.mono aX.1
    replace a4:=a4.mono aX.1
    replace a5:=a5.mono aX.1
    replace a7:=a7.mono aX.1
    replace aC:=aC.mono aX.1
    replace aG:=aG.mono aX.1
    replace aJ:=aJ.mono aX.1
    replace aV:=aV.mono aX.1
    replace bH:=bH.mono aX.1
    replace a1:=Frz.le_trans a1 aX.1
    replace a8:=Frz.le_trans a8 aX.1
    refine rn 1 4 [(0,pb cb0),(3,pb a0),(37,sb a3 7),(38,iv ((7:Nat):Int)),(39,iv 5),(45,iv dK.1),(46,.pointer (some ⟨a0,8,none⟩))] hF fun a hF=>?_
    refine SK.wi (qs 3 3 8 (iv dK.1) hF hS rfl fun w a hF hS=>?_)
    refine WI.fin rfl (Ab<|A0<|?_)
    refine WI.region ?_
    refine ro 2 2 [(0,pb cb0),(3,pb a0),(37,sb a3 7),(38,iv ((7:Nat):Int)),(39,iv 6)] hF (oX (.run [] (binOp .add 3 (iv 5) (iv 1)) (iv 6)) (Bh kr)<|A9) fun a hF=>?_
    refine wfn rfl ?_
    refine My ?_
    refine qnB [(40,.bool true)] hF fun a hF=>?_
    refine Ar ?_
    refine wpIn_cond_true (hF.get rfl) ?_
    refine wpIn_skip (A0 ?_)
    refine Ar ?_
    refine wpIn_block ?_
    refine qoB [(5,.pointer (some ⟨a0,9,none⟩))] hF (oX (.run [] (Instr.indexAt 165 (sb a3 7) (iv 6)) (.pointer (some (Bc (some ⟨a3,0,none⟩) 6 1)))) (Gj (i:=6) (hS.arr (i:=2) rfl) kr (u:=.pointer (some ⟨a0,9,none⟩)) (fun _=>rfl))<|oX (.run [] (Instr.loadAt 164 (.pointer (some (Bc (some ⟨a3,0,none⟩) 6 1)))) (.pointer (some ⟨a0,9,none⟩))) (Pr (i:=6) 0 Pl (fun _ hd=>((hS.at_ hd).arr (i:=2) rfl)) kr (fun _=>rfl) rfl)<|A9) fun a hF=>?_
    refine WI.region ?_
    refine qn 2 2 [(43,.pointer (some ⟨a0,9,none⟩)),(44,pb cb0)] hF fun a hF=>?_
    obtain ⟨jQ,h9,h⟩:=A1 h
    refine Db (fun e3=>[(0,pb cb0),(3,pb a0),(37,sb a3 7),(38,iv ((7:Nat):Int)),(39,iv 6),(43,.pointer (some ⟨a0,9,none⟩)),(45,e3)]) hF kr ⟨kr⟩ (Al F _ _ h9 ν1030 w0 w _ hlow cH hS) (fun _=>⟨kr⟩) ?_ ?_
    ·rintro j3 w he_ ⟨ν1050,eR,fI,aU,hlow,gC,hS⟩
     replace h:=Fm h he_
     replace hext:=Frz.ext_trans hext aU
     replace hA3:=hA3.mono aU.1
     replace a2:=a2.mono aU.1
     replace a4:=a4.mono aU.1
     replace a5:=a5.mono aU.1
     replace a7:=a7.mono aU.1
     replace aC:=aC.mono aU.1
     replace aG:=aG.mono aU.1
     replace aJ:=aJ.mono aU.1
     replace aV:=aV.mono aU.1
     replace bH:=bH.mono aU.1
     replace cH:=cH.mono aU.1
     replace a1:=Frz.le_trans a1 aU.1
     replace a8:=Frz.le_trans a8 aU.1
     refine Ak<|A7<|A7<|Ak<|A7<|Ak<|A7<|Ax hF ?_
     obtain rfl:=Ao h
     replace hS:=hS.d3.d2
     exact .inr ⟨_,rfl,rfl,ν1050,eR,fI,hext,hlow,gC,hS⟩
    rintro dC e3 w a he_ ⟨ν1044,eQ,fH,aT,hlow,rfl,gB,hS⟩ hF
    replace h:=Fo h he_
    replace hext:=Frz.ext_trans hext aT
    replace hA3:=hA3.mono aT.1
    replace a2:=a2.mono aT.1
    replace a4:=a4.mono aT.1
    replace a5:=a5.mono aT.1
    replace a7:=a7.mono aT.1
    replace aC:=aC.mono aT.1
    replace aG:=aG.mono aT.1
    replace aJ:=aJ.mono aT.1
    replace aV:=aV.mono aT.1
    replace bH:=bH.mono aT.1
    replace cH:=cH.mono aT.1
    replace a1:=Frz.le_trans a1 aT.1
    replace a8:=Frz.le_trans a8 aT.1
    refine rn 1 4 [(0,pb cb0),(3,pb a0),(37,sb a3 7),(38,iv ((7:Nat):Int)),(39,iv 6),(45,iv dC.1),(46,.pointer (some ⟨a0,9,none⟩))] hF fun a hF=>?_
    refine SK.wi (qs 3 3 9 (iv dC.1) hF hS rfl fun w a hF hS=>?_)
    refine WI.fin rfl (Ab<|A0<|?_)
    refine WI.region ?_
    refine ro 2 2 [(0,pb cb0),(3,pb a0),(37,sb a3 7),(38,iv ((7:Nat):Int)),(39,iv 7)] hF (oX (.run [] (binOp .add 3 (iv 6) (iv 1)) (iv 7)) (Bh kr)<|A9) fun a hF=>?_
    refine wfn rfl ?_
    refine My ?_
    refine qnB [(40,.bool false)] hF fun a hF=>?_
    refine Ar ?_
    refine wpIn_cond_false (hF.get rfl) ?_
    refine wpIn_exit (Aa<|Aa<|Av<|A0 ?_)
    exact ⟨dL.1,dM.1,dN.1,dI.1,dJ.1,dK.1,dC.1,dC.2.b,ν1044,eQ,fH,hF.sub kr,hS.d2,gB,a8,hext,hlow,h⟩
   clear a8
   rintro a w ⟨aN,aO,a6,aP,aQ,aR,aS,dA,ν763,cT,cW,hF,hS,bX,b0,hext,hlow,h⟩
   replace hA3:=hA3.mono b0
   replace a2:=a2.mono b0
   replace a4:=a4.mono b0
   replace a5:=a5.mono b0
   replace a7:=a7.mono b0
   replace a1:=Frz.le_trans a1 b0
   rw [Gb] at h
   refine esr ?_
   obtain ⟨i3,hQ,h⟩:=A1 h
   refine qx 3 3 [(50,iv i3)] hF (oN 38 2 0 8 hS.e rfl<|oC (fun w2 hd=>Mx F (api_Site.mk aK.1 aH.1 aL.1 aN aO a6 aP aQ) _ hQ _ w2 (A5 w2))<|A9) fun a w hF hx=>?_
   replace hS:=hS.later hx
   obtain ⟨k8,hR,h⟩:=A1 h
   refine Yd (fun i0=>[(0,pb cb0),(3,pb a0)]) hF kr ⟨kr⟩ (Mq F _ _ hR (Ay w) w (A5 w)) (fun _=>⟨kr⟩) ?_ ?_
   ·intro v_ w he_ hx
    replace hS:=hS.later hx
    replace h:=Fm h he_
    refine A7<|Ak<|A7<|Ax hF ?_
    obtain rfl:=Ao h
    replace hS:=hS.d2
    exact .inr ⟨_,rfl,rfl,ν763,cT,cW,hext,hlow,bX,hS⟩
   rintro k9 i0 w a he_ ⟨rfl,hx⟩ hF
   replace h:=Fo h he_
   replace hS:=hS.later hx
   refine wfn rfl ?_
   refine esr ?_
   obtain ⟨jN,h5,h⟩:=A1 h
   obtain ⟨i2,h6,h⟩:=A1 h
   refine ro 12 12 [(3,pb a0),(52,pb cb0),(60,iv i2),(61,.agg #[iv 1,iv 0,iv 0,iv 0,iv 0,iv 0,iv 0,iv 0,iv 0,iv 0,iv 0,iv 0,iv 0,iv 0]),(63,.func (.func 95) #[pb cb0] #[])] hF (oL 3 2 4 hS.i rfl rfl<|oM 3 h5<|oL 3 2 5 hS.i rfl rfl<|oM 3 h6<|A9) fun a hF=>?_
   obtain ⟨kA,hT,h⟩:=A1 h
   refine Db (fun eJ=>[(3,pb a0),(64,eJ)]) hF kr ⟨kr⟩ (Kh F _ _ _ _ hT ν763 w0 w _ hlow bX hS) (fun _=>⟨kr⟩) ?_ ?_
   ·rintro jI w he_ ⟨ν794,fA,g4,bM,hlow,gV,hS⟩
    replace h:=Fm h he_
    replace hext:=Frz.ext_trans hext bM
    replace hA3:=hA3.mono bM.1
    replace a2:=a2.mono bM.1
    replace a4:=a4.mono bM.1
    replace a5:=a5.mono bM.1
    replace a7:=a7.mono bM.1
    replace bX:=bX.mono bM.1
    replace a1:=Frz.le_trans a1 bM.1
    replace b0:=Frz.le_trans b0 bM.1
    refine A7<|Ak<|A7<|Ax hF ?_
    obtain rfl:=Ao h
    replace hS:=hS.d2
    exact .inr ⟨_,rfl,rfl,ν794,fA,g4,hext,hlow,gV,hS⟩
   rintro bR eJ w a he_ ⟨ν785,dQ,dU,cU,cX,bL,hlow,rfl,dD,dE,hS⟩ hF
   replace h:=Fo h he_
   replace hext:=Frz.ext_trans hext bL
   replace hA3:=hA3.mono bL.1
   replace a2:=a2.mono bL.1
   replace a4:=a4.mono bL.1
   replace a5:=a5.mono bL.1
   replace a7:=a7.mono bL.1
   replace bX:=bX.mono bL.1
   replace a1:=Frz.le_trans a1 bL.1
   replace b0:=Frz.le_trans b0 bL.1
   refine rn 1 14 [(3,pb a0),(6,sv dQ bR.1 dU)] hF fun a hF=>?_
   refine wfn rfl ?_
   refine D9 (fun a w=>∃(b9:(List (List api_Echo))) (bS:Option Addr) (bU:Nat) (cY:List (List Value)),Fr 155 [] [(3,pb a0)] a∧St w0 (arr 87 1 (fN 1) bS b9.length bU cY::fz w0 ν785::blk cb0 125 #[sv cU bR.2.b cX]::blk a0 41 #[.string aK.1,iv aH.1,iv aL.1,iv aN,iv aO,iv a6,iv aP,iv aQ,iv aR,iv aS,sv bS b9 bU]::T_) w∧(All2 (Rp87 ν785) cY b9)∧Gc aK aH aL aN aO a6 aP aQ aR aS bR b9=some res) ?_ ?_
   ·skip
    refine wpIn_block ?_
    replace hS:=hS.nilarr 87 1 (fN 1)
    refine Ci (fun n_ a w=>∃(b4:(List (List api_Echo))) (bA:(List api_Echo)) (bT:Option Addr) (bV:Nat) (bW:List (List Value)) (aE:Option Addr) (aM:Nat),Fr 155 [] [(3,pb a0),(6,sv aE bA aM)] a∧St w0 (arr 87 1 (fN 1) bT b4.length bV bW::fz w0 ν785::blk cb0 125 #[sv cU bR.2.b cX]::blk a0 41 #[.string aK.1,iv aH.1,iv aL.1,iv aN,iv aO,iv a6,iv aP,iv aQ,iv aR,iv aS,sv bT b4 bV]::T_) w∧(All2 (Rp87 ν785) bW b4)∧(ArrM ν785 14 api_Echo.cells aE aM bA)∧Ej aK aH aL aN aO a6 aP aQ aR aS bR n_ b4 bA=some res) F ⟨[],bR.1,none,0,[],dQ,dU,hF.sub kr,hS,All2.nil,dD,h⟩ ?_
    rintro nk4 a w ⟨b4,bA,bT,bV,bW,aE,aM,hF,hS,dY,cZ,h⟩
    rcases nk4 with _|nk4
    ·cases (show (none:Option (Except (Value×volume_reader) (volume_thing×volume_reader)))=some res from h)
    obtain ⟨k4,hk4⟩:∃k,k=Ej aK aH aL aN aO a6 aP aQ aR aS bR nk4:=⟨_,rfl⟩
    replace h:G9 aK aH aL aN aO a6 aP aQ aR aS bR k4 b4 bA=some res:=by rw [hk4];exact h
    rw [G9] at h
    refine Ar ?_
    refine qnB [(67,.bool (decide ((ln bA)>0)))] hF fun a hF=>?_
    refine Aj hF rfl (fun hc=>?_) (fun hc=>?_)
    ·replace h:=Af h hc
     refine wpIn_skip (A0 ?_)
     refine Ar ?_
     refine wpIn_block ?_
     obtain ⟨aD,dV,h⟩:=A1 h
     refine Bt 11 [10] _ (D:=fun w=>St w0 [arr 87 1 (fN 1) bT b4.length bV bW,blk cb0 125 #[sv cU bR.2.b cX],blk a0 41 #[.string aK.1,iv aH.1,iv aL.1,iv aN,iv aO,iv a6,iv aP,iv aQ,iv aR,iv aS,sv bT b4 bV]] w∧FrzAt ν785 w) kr kr hF.size (fun w hx=>?_) (fun _ _ h=>h)
     replace hS:=hS.later hx
     refine ⟨⟨St.pick [0,2,3] (by decide) hS,hS.frz (i:=1) rfl hlow⟩,?_⟩
     have jM:=Frz.le_refl ν785
     have gX:ArrM ν785 14 api_Echo.cells (Aw aE a6.toNat (0:Int).toNat 14) aD.length aD:=fun w_ hw_=>(cZ w_ hw_).cutMD api_Echo.cells_len dV
     refine WT.s [0,1,2,3,4,5,6,7,8,9] [10] kr kr ?_
     refine qC 10 [(74,sv bT b4 bV),(82,.slice (Aw aE a6.toNat (0:Int).toNat 14) aD.length aD.length)] hF (oL 39 2 10 (fun _ hd=>hd.1) rfl rfl<|oL 3 2 5 (fun _ hd=>hd.1) rfl rfl<|oL 3 2 5 (fun _ hd=>hd.1) rfl rfl<|oX (.run [] (Instr.sliceAt 87 (sv aE bA aM) none (some (iv a6)) (some (iv a6))) (.slice (Aw aE a6.toNat (0:Int).toNat 14) aD.length aD.length)) (A05 kr (cZ _ (hS.frz (i:=1) rfl hlow)) (fun _=>dV))<|A9) fun a hF=>?_
     refine WRun.fin ?_
     refine all_cons ?_ (At)
     have dZ:All2 (Rp87 ν785) ([[.slice (Aw aE a6.toNat (0:Int).toNat 14) aD.length aD.length]]:List (List Value)) [aD]:=(All2.cons ⟨(Aw aE a6.toNat (0:Int).toNat 14),aD.length,rfl,gX⟩ All2.nil)
     refine Qp (e:=87) (sz:=1) (f:=fN 1) (t:=39) (len:=1) (fun dR=>[(3,pb a0),(6,sv aE bA aM),(74,sv bT b4 bV),(83,sb dR 1)]) #[(0,.slice (Aw aE a6.toNat (0:Int).toNat 14) aD.length aD.length)] #[.slice (Aw aE a6.toNat (0:Int).toNat 14) aD.length aD.length] ([[.slice (Aw aE a6.toNat (0:Int).toNat 14) aD.length aD.length]]:List (List Value)) ([aD]) hF hS kr ⟨kr⟩ kr (Bz 1) rfl rfl rfl kr (fun _=>⟨kr⟩) fun dR w a hF hS=>⟨⟨St.pick [1,3,4] (by decide) hS,(hS.frz (i:=2) rfl hlow)⟩,?_⟩
     refine WT.z [] kr ?_
     refine WRun.fin ?_
     obtain ⟨cP,dW,h⟩:=A1 h
     have h3:All2 (Rp87 ν785) (bW++([[.slice (Aw aE a6.toNat (0:Int).toNat 14) aD.length aD.length]]:List (List Value))) cP:=by rw [(M5 dW).1];exact All2.app dY dZ
     refine SK.wi (X1 (t:=39) (ty:=39) (bytes:=24) (c:=bW) (c':=([[.slice (Aw aE a6.toNat (0:Int).toNat 14) aD.length aD.length]]:List (List Value))) (l:=b4) (l':=([aD])) (fun cF cG=>[(3,pb a0),(6,sv aE bA aM),(84,sv cF cP cG)]) 1 hF hS rfl kr ⟨kr⟩ kr (hS.arr (i:=0) rfl) (ArrQ.one dZ Rp87.one) dW (fun _ _=>⟨kr⟩) fun cF cG w a hF hS=>?_)
     refine rn 1 13 [(3,pb a0),(6,sv aE bA aM),(84,sv cF cP cG),(85,.pointer (some ⟨a0,10,none⟩))] hF fun a hF=>?_
     refine SK.wi (qs 39 4 10 (sv cF cP cG) hF hS rfl fun w a hF hS=>?_)
     refine WI.fin rfl (Ab<|A0<|?_)
     refine WI.region ?_
     obtain ⟨dB,dX,h⟩:=A1 h
     have gY:ArrM ν785 14 api_Echo.cells (Aw aE aM a6.toNat 14) (aM-a6.toNat) dB:=fun w_ hw_=>(cZ w_ hw_).cutD api_Echo.cells_len dX
     refine ro 6 6 [(3,pb a0),(6,.slice (Aw aE aM a6.toNat 14) dB.length (aM-a6.toNat))] hF (oL 3 4 5 hS.i rfl rfl<|oX (.run [] (Instr.sliceAt 87 (sv aE bA aM) (some (iv a6)) none none) (.slice (Aw aE aM a6.toNat 14) dB.length (aM-a6.toNat))) (N5 kr (cZ _ (hS.frz (i:=2) rfl hlow)) (fun _=>dX))<|A9) fun a hF=>?_
     refine wfn rfl ?_
     rw [hk4] at h
     exact ⟨nk4,Nat.lt_succ_self _,cP,dB,cF,cG,(bW++([[.slice (Aw aE a6.toNat (0:Int).toNat 14) aD.length aD.length]]:List (List Value))),(Aw aE aM a6.toNat 14),(aM-a6.toNat),hF.sub kr,hS.d0,h3,gY,h⟩
    ·replace h:=Ae h hc
     refine wpIn_exit (Aa<|Aa<|Av<|A0 ?_)
     exact ⟨b4,bT,bV,bW,hF.sub kr,hS,dY,h⟩
   rintro a w ⟨b9,bS,bU,cY,hF,hS,dF,h⟩
   rw [Gc] at h
   refine roB [(2,.iface 156 (.agg #[.string aK.1,iv aH.1,iv aL.1,iv aN,iv aO,iv a6,iv aP,iv aQ,iv aR,iv aS,sv bS b9 bU]))] hF (oN 41 3 0 11 hS.i rfl<|A9) fun a hF=>?_
   refine wpIn_ret (Ai<|A6<|Ad [.tmp 2] [.iface 156 (.agg #[.string aK.1,iv aH.1,iv aL.1,iv aN,iv aO,iv a6,iv aP,iv aQ,iv aR,iv aS,sv bS b9 bU])] hF rfl ⟨rfl,trivial⟩ ?_)
   obtain ⟨ν877,b3,hlow,hS,hY⟩:=hS.freeze (i:=1) (j:=0) rfl rfl (by decide) hlow
   replace hA3:=hA3.mono b3.1
   replace a2:=a2.mono b3.1
   replace a4:=a4.mono b3.1
   replace a5:=a5.mono b3.1
   replace a7:=a7.mono b3.1
   replace bX:=bX.mono b3.1
   replace dD:=dD.mono b3.1
   replace dE:=dE.mono b3.1
   replace dF:=All2.mono Rp87.mono b3.1 dF
   replace a1:=Frz.le_trans a1 b3.1
   replace b0:=Frz.le_trans b0 b3.1
   replace hext:=Frz.ext_trans hext b3
   have gW:=ArrQ.of_arr (l:=b9) hY dF Rp87.mono (Frz.le_refl _)
   obtain rfl:=Ao h
   replace hS:=hS.d2
   exact .inl ⟨_,_,rfl,rfl,ν877,(.iface 156 (.agg #[.string aK.1,iv aH.1,iv aL.1,iv aN,iv aO,iv a6,iv aP,iv aQ,iv aR,iv aS,sv bS b9 bU])),cU,cX,hext,hlow,rfl,(show volume_thing.R _ _ (.ic156 (volume_sweep.mk (api_Sweep.mk (api_Site.mk aK.1 aH.1 aL.1 aN aO a6 aP aQ) aR aS b9))) from ⟨[.string aK.1,iv aH.1,iv aL.1,iv aN,iv aO,iv a6,iv aP,iv aQ,iv aR,iv aS,sv bS b9 bU],rfl,⟨bS,bU,cY,rfl,gW⟩⟩),dE,hS⟩
  ·replace h:=Ae h hc
   refine qnB [(89,.bool (cR.1==2))] hF fun a hF=>?_
   refine Aj hF rfl (fun hc=>?_) (fun hc=>?_)
   ·replace h:=Af h hc
    refine esr ?_
    refine SK.wi (qA 158 #[.string ByteArray.empty,iv 0,iv 0,iv 0,iv 0,iv 0,iv 0,.slice none 0 0] (fun aA=>[(7,pb aA)]) hF hS fun aA w a hF hS=>?_)
    refine wfn rfl ?_
    refine esr ?_
    refine qn 1 1 [(91,pb cb0)] hF fun a hF=>?_
    obtain ⟨jR,hA,h⟩:=A1 h
    replace hS:=hS.s2.s2
    refine Db (fun e4=>[(0,pb cb0),(7,pb aA),(92,e4)]) hF kr ⟨kr⟩ (Gl F _ _ hA ν610 w0 w _ hlow a2 hS) (fun _=>⟨kr⟩) ?_ ?_
    ·rintro j4 w he_ ⟨ν1065,eS,fJ,d4,hlow,gD,hS⟩
     replace h:=Fm h he_
     replace hext:=Frz.ext_trans hext d4
     replace hA3:=hA3.mono d4.1
     replace a2:=a2.mono d4.1
     replace a1:=Frz.le_trans a1 d4.1
     refine A7<|Ak<|A7<|Ax hF ?_
     obtain rfl:=Ao h
     replace hS:=hS.d2
     exact .inr ⟨_,rfl,rfl,ν1065,eS,fJ,hext,hlow,gD,hS⟩
    rintro c7 e4 w a he_ ⟨ν1059,i7,iN,d1,hlow,rfl,a9,hS⟩ hF
    replace h:=Fo h he_
    replace hext:=Frz.ext_trans hext d1
    replace hA3:=hA3.mono d1.1
    replace a2:=a2.mono d1.1
    replace a1:=Frz.le_trans a1 d1.1
    refine rn 1 3 [(0,pb cb0),(7,pb aA),(92,.string c7.1),(93,pb aA)] hF fun a hF=>?_
    refine SK.wi (qs 9 2 0 (.string c7.1) hF hS rfl fun w a hF hS=>?_)
    refine wfn rfl ?_
    refine esr ?_
    refine qn 1 1 [(94,pb cb0)] hF fun a hF=>?_
    obtain ⟨jS,hB,h⟩:=A1 h
    refine Db (fun e5=>[(0,pb cb0),(7,pb aA),(95,e5)]) hF kr ⟨kr⟩ (Al F _ _ hB ν1059 w0 w _ hlow a9 hS) (fun _=>⟨kr⟩) ?_ ?_
    ·rintro j5 w he_ ⟨ν1079,eT,fL,cK,hlow,gE,hS⟩
     replace h:=Fm h he_
     replace hext:=Frz.ext_trans hext cK
     replace hA3:=hA3.mono cK.1
     replace a2:=a2.mono cK.1
     replace a9:=a9.mono cK.1
     replace a1:=Frz.le_trans a1 cK.1
     refine A7<|Ak<|A7<|Ax hF ?_
     obtain rfl:=Ao h
     replace hS:=hS.d2
     exact .inr ⟨_,rfl,rfl,ν1079,eT,fL,hext,hlow,gE,hS⟩
    rintro c8 e5 w a he_ ⟨ν1073,i8,iO,cJ,hlow,rfl,aB,hS⟩ hF
    replace h:=Fo h he_
    replace hext:=Frz.ext_trans hext cJ
    replace hA3:=hA3.mono cJ.1
    replace a2:=a2.mono cJ.1
    replace a9:=a9.mono cJ.1
    replace a1:=Frz.le_trans a1 cJ.1
    refine rn 1 3 [(0,pb cb0),(7,pb aA),(95,iv c8.1),(96,.pointer (some ⟨aA,1,none⟩))] hF fun a hF=>?_
    refine SK.wi (qs 3 2 1 (iv c8.1) hF hS rfl fun w a hF hS=>?_)
    refine wfn rfl ?_
    refine esr ?_
    refine qn 1 1 [(97,pb cb0)] hF fun a hF=>?_
    obtain ⟨jT,hC,h⟩:=A1 h
    refine Db (fun e6=>[(0,pb cb0),(7,pb aA),(98,e6)]) hF kr ⟨kr⟩ (D2 F _ _ hC ν1073 w0 w _ hlow aB hS) (fun _=>⟨kr⟩) ?_ ?_
    ·rintro j6 w he_ ⟨ν1093,eU,fM,cC,hlow,gF,hS⟩
     replace h:=Fm h he_
     replace hext:=Frz.ext_trans hext cC
     replace hA3:=hA3.mono cC.1
     replace a2:=a2.mono cC.1
     replace a9:=a9.mono cC.1
     replace aB:=aB.mono cC.1
     replace a1:=Frz.le_trans a1 cC.1
     refine A7<|Ak<|A7<|Ax hF ?_
     obtain rfl:=Ao h
     replace hS:=hS.d2
     exact .inr ⟨_,rfl,rfl,ν1093,eU,fM,hext,hlow,gF,hS⟩
    rintro bB e6 w a he_ ⟨ν1087,i9,iP,cB,hlow,rfl,aF,hS⟩ hF
    replace h:=Fo h he_
    replace hext:=Frz.ext_trans hext cB
    replace hA3:=hA3.mono cB.1
    replace a2:=a2.mono cB.1
    replace a9:=a9.mono cB.1
    replace aB:=aB.mono cB.1
    replace a1:=Frz.le_trans a1 cB.1
    refine rn 1 3 [(0,pb cb0),(7,pb aA),(98,iv bB.1),(99,pb cb0)] hF fun a hF=>?_
    obtain ⟨jU,hD,h⟩:=A1 h
    refine Db (fun e7=>[(0,pb cb0),(7,pb aA),(98,iv bB.1),(100,e7)]) hF kr ⟨kr⟩ (D2 F _ _ hD ν1087 w0 w _ hlow aF hS) (fun _=>⟨kr⟩) ?_ ?_
    ·rintro j7 w he_ ⟨ν1107,eV,fO,c6,hlow,gG,hS⟩
     replace h:=Fm h he_
     replace hext:=Frz.ext_trans hext c6
     replace hA3:=hA3.mono c6.1
     replace a2:=a2.mono c6.1
     replace a9:=a9.mono c6.1
     replace aB:=aB.mono c6.1
     replace aF:=aF.mono c6.1
     replace a1:=Frz.le_trans a1 c6.1
     refine A7<|Ak<|A7<|Ax hF ?_
     obtain rfl:=Ao h
     replace hS:=hS.d2
     exact .inr ⟨_,rfl,rfl,ν1107,eV,fO,hext,hlow,gG,hS⟩
    rintro bP e7 w a he_ ⟨ν1101,iA,iQ,c5,hlow,rfl,aI,hS⟩ hF
    replace h:=Fo h he_
    replace hext:=Frz.ext_trans hext c5
    replace hA3:=hA3.mono c5.1
    replace a2:=a2.mono c5.1
    replace a9:=a9.mono c5.1
    replace aB:=aB.mono c5.1
    replace aF:=aF.mono c5.1
    replace a1:=Frz.le_trans a1 c5.1
    refine rn 3 7 [(0,pb cb0),(7,pb aA),(98,iv bB.1),(100,iv bP.1),(103,.pointer (some ⟨aA,2,none⟩))] hF fun a hF=>?_
    refine SK.wi (qs 3 2 2 (iv bB.1) hF hS rfl fun w a hF hS=>?_)
    refine qn 3 11 [(106,.pointer (some ⟨aA,3,none⟩))] hF fun a hF=>?_
    refine SK.wi (qs 3 2 3 (iv bP.1) hF hS rfl fun w a hF hS=>?_)
    refine wfn rfl ?_
    refine esr ?_
    refine qn 1 1 [(107,pb cb0)] hF fun a hF=>?_
    obtain ⟨jV,hE,h⟩:=A1 h
    refine Db (fun e8=>[(0,pb cb0),(7,pb aA),(108,e8)]) hF kr ⟨kr⟩ (Al F _ _ hE ν1101 w0 w _ hlow aI hS) (fun _=>⟨kr⟩) ?_ ?_
    ·rintro j8 w he_ ⟨ν1121,eW,fP,bZ,hlow,gH,hS⟩
     replace h:=Fm h he_
     replace hext:=Frz.ext_trans hext bZ
     replace hA3:=hA3.mono bZ.1
     replace a2:=a2.mono bZ.1
     replace a9:=a9.mono bZ.1
     replace aB:=aB.mono bZ.1
     replace aF:=aF.mono bZ.1
     replace aI:=aI.mono bZ.1
     replace a1:=Frz.le_trans a1 bZ.1
     refine A7<|Ak<|A7<|Ax hF ?_
     obtain rfl:=Ao h
     replace hS:=hS.d2
     exact .inr ⟨_,rfl,rfl,ν1121,eW,fP,hext,hlow,gH,hS⟩
    rintro aZ e8 w a he_ ⟨ν1115,iB,iR,bY,hlow,rfl,aW,hS⟩ hF
    replace h:=Fo h he_
    replace hext:=Frz.ext_trans hext bY
    replace hA3:=hA3.mono bY.1
    replace a2:=a2.mono bY.1
    replace a9:=a9.mono bY.1
    replace aB:=aB.mono bY.1
    replace aF:=aF.mono bY.1
    replace aI:=aI.mono bY.1
    replace a1:=Frz.le_trans a1 bY.1
    refine rn 1 3 [(0,pb cb0),(7,pb aA),(108,iv aZ.1),(109,pb cb0)] hF fun a hF=>?_
    obtain ⟨jW,hG,h⟩:=A1 h
    refine Db (fun e9=>[(0,pb cb0),(7,pb aA),(108,iv aZ.1),(110,e9)]) hF kr ⟨kr⟩ (Al F _ _ hG ν1115 w0 w _ hlow aW hS) (fun _=>⟨kr⟩) ?_ ?_
    ·rintro j9 w he_ ⟨ν1135,eX,fQ,bK,hlow,gI,hS⟩
     replace h:=Fm h he_
     replace hext:=Frz.ext_trans hext bK
     replace hA3:=hA3.mono bK.1
     replace a2:=a2.mono bK.1
     replace a9:=a9.mono bK.1
     replace aB:=aB.mono bK.1
     replace aF:=aF.mono bK.1
     replace aI:=aI.mono bK.1
     replace aW:=aW.mono bK.1
     replace a1:=Frz.le_trans a1 bK.1
     refine A7<|Ak<|A7<|Ax hF ?_
     obtain rfl:=Ao h
     replace hS:=hS.d2
     exact .inr ⟨_,rfl,rfl,ν1135,eX,fQ,hext,hlow,gI,hS⟩
    rintro bC e9 w a he_ ⟨ν1129,iC,iS,bJ,hlow,rfl,bI,hS⟩ hF
    replace h:=Fo h he_
    replace hext:=Frz.ext_trans hext bJ
    replace hA3:=hA3.mono bJ.1
    replace a2:=a2.mono bJ.1
    replace a9:=a9.mono bJ.1
    replace aB:=aB.mono bJ.1
    replace aF:=aF.mono bJ.1
    replace aI:=aI.mono bJ.1
    replace aW:=aW.mono bJ.1
    replace a1:=Frz.le_trans a1 bJ.1
    refine rn 1 5 [(0,pb cb0),(7,pb aA),(108,iv aZ.1),(110,iv bC.1),(111,pb cb0)] hF fun a hF=>?_
    obtain ⟨jX,hH,h⟩:=A1 h
    refine Db (fun eA=>[(0,pb cb0),(7,pb aA),(108,iv aZ.1),(110,iv bC.1),(112,eA)]) hF kr ⟨kr⟩ (Al F _ _ hH ν1129 w0 w _ hlow bI hS) (fun _=>⟨kr⟩) ?_ ?_
    ·rintro jA w he_ ⟨ν1149,eZ,fS,bE,hlow,gJ,hS⟩
     replace h:=Fm h he_
     replace hext:=Frz.ext_trans hext bE
     replace hA3:=hA3.mono bE.1
     replace a2:=a2.mono bE.1
     replace a9:=a9.mono bE.1
     replace aB:=aB.mono bE.1
     replace aF:=aF.mono bE.1
     replace aI:=aI.mono bE.1
     replace aW:=aW.mono bE.1
     replace bI:=bI.mono bE.1
     replace a1:=Frz.le_trans a1 bE.1
     refine A7<|Ak<|A7<|Ax hF ?_
     obtain rfl:=Ao h
     replace hS:=hS.d2
     exact .inr ⟨_,rfl,rfl,ν1149,eZ,fS,hext,hlow,gJ,hS⟩
    rintro bQ eA w a he_ ⟨ν1143,eY,fR,bD,hlow,rfl,cA,hS⟩ hF
    replace h:=Fo h he_
    replace hext:=Frz.ext_trans hext bD
    replace hA3:=hA3.mono bD.1
    replace a2:=a2.mono bD.1
    replace a9:=a9.mono bD.1
    replace aB:=aB.mono bD.1
    replace aF:=aF.mono bD.1
    replace aI:=aI.mono bD.1
    replace aW:=aW.mono bD.1
    replace bI:=bI.mono bD.1
    replace a1:=Frz.le_trans a1 bD.1
    refine rn 3 9 [(0,pb cb0),(7,pb aA),(108,iv aZ.1),(110,iv bC.1),(112,iv bQ.1),(115,.pointer (some ⟨aA,4,none⟩))] hF fun a hF=>?_
    refine SK.wi (qs 3 2 4 (iv aZ.1) hF hS rfl fun w a hF hS=>?_)
    refine qn 3 13 [(118,.pointer (some ⟨aA,5,none⟩))] hF fun a hF=>?_
    refine SK.wi (qs 3 2 5 (iv bC.1) hF hS rfl fun w a hF hS=>?_)
    refine qn 3 17 [(121,.pointer (some ⟨aA,6,none⟩))] hF fun a hF=>?_
    refine SK.wi (qs 3 2 6 (iv bQ.1) hF hS rfl fun w a hF hS=>?_)
    refine wfn rfl ?_
    refine esr ?_
    refine qx 4 4 [(125,iv (Bk (api_Grid.mk bB.1 bP.1 aZ.1 bC.1 bQ.1)))] hF (oN 43 2 2 5 hS.e rfl<|oC (fun w2 hd=>Mw (api_Grid.mk bB.1 bP.1 aZ.1 bC.1 bQ.1) _ rfl _ w2 (A5 w2))<|A9) fun a w hF hx=>?_
    replace hS:=hS.later hx
    obtain ⟨jY,hI,h⟩:=A1 h
    refine Yd (fun hZ=>[(0,pb cb0),(7,pb aA)]) hF kr ⟨kr⟩ (Mq F _ _ hI (Ay w) w (A5 w)) (fun _=>⟨kr⟩) ?_ ?_
    ·intro v_ w he_ hx
     replace hS:=hS.later hx
     replace h:=Fm h he_
     refine A7<|Ak<|A7<|Ax hF ?_
     obtain rfl:=Ao h
     replace hS:=hS.d2
     exact .inr ⟨_,rfl,rfl,ν1143,eY,fR,hext,hlow,cA,hS⟩
    rintro jZ hZ w a he_ ⟨rfl,hx⟩ hF
    replace h:=Fo h he_
    replace hS:=hS.later hx
    refine wfn rfl ?_
    refine esr ?_
    obtain ⟨i1,h4,h⟩:=A1 h
    refine ro 13 13 [(7,pb aA),(127,pb cb0),(136,iv i1),(137,.agg #[iv 0,iv 0]),(139,.func (.func 98) #[pb cb0] #[])] hF (oL 3 2 5 hS.i rfl rfl<|oL 3 2 6 hS.i rfl rfl<|oM 3 h4<|A9) fun a hF=>?_
    obtain ⟨k0,hJ,h⟩:=A1 h
    refine Db (fun eB=>[(7,pb aA),(140,eB)]) hF kr ⟨kr⟩ (Ki F _ _ _ _ hJ ν1143 w0 w _ hlow cA hS) (fun _=>⟨kr⟩) ?_ ?_
    ·rintro jB w he_ ⟨ν1170,f1,fU,b8,hlow,gM,hS⟩
     replace h:=Fm h he_
     replace hext:=Frz.ext_trans hext b8
     replace hA3:=hA3.mono b8.1
     replace a2:=a2.mono b8.1
     replace a9:=a9.mono b8.1
     replace aB:=aB.mono b8.1
     replace aF:=aF.mono b8.1
     replace aI:=aI.mono b8.1
     replace aW:=aW.mono b8.1
     replace bI:=bI.mono b8.1
     replace cA:=cA.mono b8.1
     replace a1:=Frz.le_trans a1 b8.1
     refine A7<|Ak<|A7<|Ax hF ?_
     obtain rfl:=Ao h
     replace hS:=hS.d2
     exact .inr ⟨_,rfl,rfl,ν1170,f1,fU,hext,hlow,gM,hS⟩
    rintro c9 eB w a he_ ⟨ν1161,c3,c4,f0,fT,b7,hlow,rfl,gK,gL,hS⟩ hF
    replace h:=Fo h he_
    replace hext:=Frz.ext_trans hext b7
    replace hA3:=hA3.mono b7.1
    replace a2:=a2.mono b7.1
    replace a9:=a9.mono b7.1
    replace aB:=aB.mono b7.1
    replace aF:=aF.mono b7.1
    replace aI:=aI.mono b7.1
    replace aW:=aW.mono b7.1
    replace bI:=bI.mono b7.1
    replace cA:=cA.mono b7.1
    replace a1:=Frz.le_trans a1 b7.1
    refine rn 2 16 [(7,pb aA),(140,sv c3 c9.1 c4),(142,.pointer (some ⟨aA,7,none⟩))] hF fun a hF=>?_
    refine SK.wi (qs 44 2 7 (sv c3 c9.1 c4) hF hS rfl fun w a hF hS=>?_)
    refine wfn rfl ?_
    refine roB [(2,.iface 158 (.agg #[.string c7.1,iv c8.1,iv bB.1,iv bP.1,iv aZ.1,iv bC.1,iv bQ.1,sv c3 c9.1 c4]))] hF (oN 158 2 0 8 hS.i rfl<|A9) fun a hF=>?_
    refine wpIn_ret (Ai<|A6<|Ad [.tmp 2] [.iface 158 (.agg #[.string c7.1,iv c8.1,iv bB.1,iv bP.1,iv aZ.1,iv bC.1,iv bQ.1,sv c3 c9.1 c4])] hF rfl ⟨rfl,trivial⟩ ?_)
    obtain rfl:=Ao h
    replace hS:=hS.d2
    exact .inl ⟨_,_,rfl,rfl,ν1161,(.iface 158 (.agg #[.string c7.1,iv c8.1,iv bB.1,iv bP.1,iv aZ.1,iv bC.1,iv bQ.1,sv c3 c9.1 c4])),f0,fT,hext,hlow,rfl,(show volume_thing.R _ _ (.ic158 (volume_field.mk c7.1 c8.1 (api_Field.mk (api_Grid.mk bB.1 bP.1 aZ.1 bC.1 bQ.1) c9.1))) from ⟨[.string c7.1,iv c8.1,iv bB.1,iv bP.1,iv aZ.1,iv bC.1,iv bQ.1,sv c3 c9.1 c4],rfl,⟨c3,c4,rfl,gK⟩⟩),gL,hS⟩
   ·replace h:=Ae h hc
    refine qnB [(145,.bool (cR.1==3))] hF fun a hF=>?_
    refine Aj hF rfl (fun hc=>?_) (fun hc=>?_)
    ·replace h:=Af h hc
     refine esr ?_
     refine qn 1 1 [(147,pb cb0)] hF fun a hF=>?_
     obtain ⟨k1,hK,h⟩:=A1 h
     refine Db (fun eC=>[(0,pb cb0),(148,eC)]) hF kr ⟨kr⟩ (Al F _ _ hK ν610 w0 w _ hlow a2 hS) (fun _=>⟨kr⟩) ?_ ?_
     ·rintro jC w he_ ⟨ν1184,f2,fW,d6,hlow,gN,hS⟩
      replace h:=Fm h he_
      replace hext:=Frz.ext_trans hext d6
      replace hA3:=hA3.mono d6.1
      replace a2:=a2.mono d6.1
      replace a1:=Frz.le_trans a1 d6.1
      refine A7<|Ak<|A7<|Ax hF ?_
      obtain rfl:=Ao h
      replace hS:=hS
      exact .inr ⟨_,rfl,rfl,ν1184,f2,fW,hext,hlow,gN,hS⟩
     rintro c2 eC w a he_ ⟨ν1178,iD,iT,d5,hlow,rfl,cI,hS⟩ hF
     replace h:=Fo h he_
     replace hext:=Frz.ext_trans hext d5
     replace hA3:=hA3.mono d5.1
     replace a2:=a2.mono d5.1
     replace a1:=Frz.le_trans a1 d5.1
     refine rn 1 3 [(0,pb cb0),(8,iv c2.1)] hF fun a hF=>?_
     refine wfn rfl ?_
     refine esr ?_
     refine rn 2 2 [(149,iv c2.1),(150,pb cb0)] hF fun a hF=>?_
     obtain ⟨k2,hL,h⟩:=A1 h
     refine Db (fun eD=>[(149,iv c2.1),(151,eD)]) hF kr ⟨kr⟩ (Gl F _ _ hL ν1178 w0 w _ hlow cI hS) (fun _=>⟨kr⟩) ?_ ?_
     ·rintro jD w he_ ⟨ν1198,f4,fY,cM,hlow,gP,hS⟩
      replace h:=Fm h he_
      replace hext:=Frz.ext_trans hext cM
      replace hA3:=hA3.mono cM.1
      replace a2:=a2.mono cM.1
      replace cI:=cI.mono cM.1
      replace a1:=Frz.le_trans a1 cM.1
      refine A7<|Ak<|A7<|Ax hF ?_
      obtain rfl:=Ao h
      replace hS:=hS
      exact .inr ⟨_,rfl,rfl,ν1198,f4,fY,hext,hlow,gP,hS⟩
     rintro cQ eD w a he_ ⟨ν1192,f3,fX,cL,hlow,rfl,gO,hS⟩ hF
     replace h:=Fo h he_
     replace hext:=Frz.ext_trans hext cL
     replace hA3:=hA3.mono cL.1
     replace a2:=a2.mono cL.1
     replace cI:=cI.mono cL.1
     replace a1:=Frz.le_trans a1 cL.1
     refine rn 3 6 [(2,.iface 160 (.agg #[iv c2.1,.string cQ.1]))] hF fun a hF=>?_
     refine wfn rfl ?_
     refine wpIn_ret (Ai<|A6<|Ad [.tmp 2] [.iface 160 (.agg #[iv c2.1,.string cQ.1])] hF rfl ⟨rfl,trivial⟩ ?_)
     obtain rfl:=Ao h
     replace hS:=hS
     exact .inl ⟨_,_,rfl,rfl,ν1192,(.iface 160 (.agg #[iv c2.1,.string cQ.1])),f3,fX,hext,hlow,rfl,(show volume_thing.R _ _ (.ic160 (volume_note.mk c2.1 cQ.1)) from ⟨[iv c2.1,.string cQ.1],rfl,rfl⟩),gO,hS⟩
    ·replace h:=Ae h hc
     refine wpIn_skip (Ab<|A0<|?_)
     exact ⟨cR.2.b,ν610,f5,fZ,hF.sub kr,hS,a2,a1,hext,hlow,h⟩
 clear a1
 rintro a w ⟨d9,ν600,cS,cV,hF,hS,gQ,h2,hext,hlow,h⟩
 replace hA3:=hA3.mono h2
 rw [Ga] at h
 refine WI.region ?_
 refine rn 1 1 [(154,.iface 128 (iv 7))] hF fun a hF=>?_
 refine Ny (t:=128) (v:=iv 7) hF ⟨kr⟩ (Ax hF ?_)
 obtain rfl:=Ao h
 replace hS:=hS
 exact .inr ⟨_,rfl,rfl,ν600,cS,cV,hext,hlow,gQ,hS⟩
end Go.Proofs.YtifbomimeodibaaGreat
