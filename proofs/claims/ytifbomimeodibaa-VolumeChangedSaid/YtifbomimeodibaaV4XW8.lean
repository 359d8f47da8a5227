import Derived.Test.YtifbomimeodibaaV4XD
import Derived.Test.YtifbomimeodibaaProg
import Derived.Test.YtifbomimeodibaaV4XW0
import Derived.Test.YtifbomimeodibaaV4XW1
import Derived.Test.YtifbomimeodibaaV4XW3
import Derived.Test.YtifbomimeodibaaV4XW4
import Derived.Test.YtifbomimeodibaaV4XW6
namespace Go.Proofs.Ytifbomimeodibaa
open Go Go.RowKit Go.Eng
set_option maxRecDepth 10000
set_option maxHeartbeats 4000000
set_option linter.unusedVariables false
set_option linter.unusedSimpArgs false
theorem Kh (F:Nat) (p0:volume_reader) (p1:Int) (p2:api_Echo) (res:Except (Value×volume_reader) ((List api_Echo)×volume_reader)) (h:Ci F p0 p1 p2=some res) (μ:Frz) (w0 w1:World) (T_:List Res) (hlow:Ba w0 μ) {cb0:Nat} {ad1:Option Addr} {cap2:Nat} (hA3:ArrM μ 1 (fK .u8) ad1 cap2 p0.b) (hS:St w0 (fz w0 μ::blk cb0 98 #[sv ad1 p0.b cap2]::T_) w1):Mx Try.prog 50 #[pb cb0,iv p1,p2.ag,.func (.func 51) #[pb cb0] #[]] w1 res (fun r_ e w=>∃(ν_:Frz) (c1:Option Addr) (c6:Nat) (c2:Option Addr) (c7:Nat),μ.ext w0.heap.size ν_∧Ba w0 ν_∧e=(sv c1 r_.1 c6)∧ArrM ν_ 14 api_Echo.cells c1 c6 r_.1∧(ArrM ν_ 1 (fK .u8) c2 c7 r_.2.b)∧St w0 (fz w0 ν_::blk cb0 98 #[sv c2 r_.2.b c7]::T_) w) (fun e_ w=>∃(ν_:Frz) (c3:Option Addr) (c8:Nat),μ.ext w0.heap.size ν_∧Ba w0 ν_∧(ArrM ν_ 1 (fK .u8) c3 c8 e_.b)∧St w0 (fz w0 ν_::blk cb0 98 #[sv c3 e_.b c8]::T_) w):=by
 rw [Ci] at h
 have hext:=Frz.ext_refl w0.heap.size μ
 refine Aq Try.func50 rfl 49 [(0,pb cb0),(1,iv p1),(2,p2.ag),(3,.func (.func 51) #[pb cb0] #[])] rfl rfl kr fun a w hw hF=>?_
 replace hS:=hS.cast hw
 clear hw
 refine esr ?_
 refine SK.wi (H4 (t:=88) (fun b4=>[(0,pb cb0),(1,iv p1),(3,.func (.func 51) #[pb cb0] #[]),(6,pb b4)]) (p2.ag) p2.ar hF hS kr ⟨kr⟩ kr (fun _=>⟨kr⟩) fun b4 w a hF hS=>?_)
 refine rn 1 2 [(0,pb cb0),(1,iv p1),(3,.func (.func 51) #[pb cb0] #[]),(6,pb b4)] hF fun a hF=>?_
 refine wfn rfl ?_
 refine esr ?_
 refine rn 1 1 [(0,pb cb0),(1,iv p1),(3,.func (.func 51) #[pb cb0] #[]),(6,pb b4),(9,.slice none 0 0)] hF fun a hF=>?_
 refine wfn rfl ?_
 have aO:=Frz.le_refl μ
 refine Ei (fun a w=>∃(bM:Int) (bN:Int) (bO:Int) (bP:Int) (bQ:Int) (bR:Int) (bS:Int) (bT:Int) (bU:Int) (bV:Int) (bW:Int) (bX:Int) (bY:Int) (bZ:Int) (bF:(List Int)) (aV:(List api_Echo)) (ν319:Frz) (b8:Option Addr) (bB:Nat) (aW:Option Addr) (aX:Nat),Fr 49 [] [(9,sv aW aV aX)] a∧St w0 (arr 88 14 api_Echo.cells aW aV.length aX aV::blk b4 88 #[iv bM,iv bN,iv bS,iv bT,iv bU,iv bV,iv bW,iv bX,iv bY,iv bZ,iv bO,iv bP,iv bQ,iv bR]::fz w0 ν319::blk cb0 98 #[sv b8 bF bB]::T_) w∧(ArrM ν319 1 (fK .u8) b8 bB bF)∧(μ.le ν319)∧(μ.ext w0.heap.size ν319)∧(Ba w0 ν319)∧C5 bM bN bO bP bQ bR bS bT bU bV bW bX bY bZ bF aV=some res) ?_ ?_
 ·skip
  refine wpIn_block ?_
  have cA:=Frz.le_refl μ
  replace hS:=hS.nilarr 88 14 api_Echo.cells
  refine E4 (fun n_ a w=>∃(a1:Int) (a2:Int) (a3:Int) (a4:Int) (a5:Int) (a6:Int) (a7:Int) (a8:Int) (a9:Int) (aA:Int) (aB:Int) (aC:Int) (aD:Int) (aE:Int) (b0:(List Int)) (aH:(List api_Echo)) (ν548:Frz) (b9:Option Addr) (bC:Nat) (aK:Option Addr) (aL:Nat),Fr 49 [] [(0,pb cb0),(1,iv p1),(3,.func (.func 51) #[pb cb0] #[]),(6,pb b4),(9,sv aK aH aL)] a∧St w0 (arr 88 14 api_Echo.cells aK aH.length aL aH::blk b4 88 #[iv a1,iv a2,iv a7,iv a8,iv a9,iv aA,iv aB,iv aC,iv aD,iv aE,iv a3,iv a4,iv a5,iv a6]::fz w0 ν548::blk cb0 98 #[sv b9 b0 bC]::T_) w∧(ArrM ν548 1 (fK .u8) b9 bC b0)∧(μ.le ν548)∧(μ.ext w0.heap.size ν548)∧(Ba w0 ν548)∧B8 F p1 n_ a1 a2 a3 a4 a5 a6 a7 a8 a9 aA aB aC aD aE b0 aH=some res) F ⟨p2.Kind,p2.Power.Lo,p2.Match.Lo,p2.Match.Hi,p2.Turn.Lo,p2.Turn.Hi,p2.Power.Hi,p2.Steps.1.Lo,p2.Steps.1.Hi,p2.Steps.2.Lo,p2.Steps.2.Hi,p2.Spread,p2.Ratio.Lo,p2.Ratio.Hi,p0.b,[],μ,ad1,cap2,none,0,hF.sub kr,hS,hA3,cA,hext,hlow,h⟩ ?_
  clear cA
  rintro nk2 a w ⟨a1,a2,a3,a4,a5,a6,a7,a8,a9,aA,aB,aC,aD,aE,b0,aH,ν548,b9,bC,aK,aL,hF,hS,aT,aP,hext,hlow,h⟩
  rcases nk2 with _|nk2
  ·cases (show (none:Option (Except (Value×volume_reader) ((List api_Echo)×volume_reader)))=some res from h)
  replace hA3:=hA3.mono aP
  replace aO:=Frz.le_trans aO aP
  obtain ⟨k2,hk2⟩:∃k,k=B8 F p1 nk2:=⟨_,rfl⟩
  replace h:C4 F p1 k2 a1 a2 a3 a4 a5 a6 a7 a8 a9 aA aB aC aD aE b0 aH=some res:=by rw [hk2];exact h
  rw [C4] at h
  refine B0 ?_
  refine esr ?_
  refine rn 4 4 [(0,pb cb0),(1,iv p1),(3,.func (.func 51) #[pb cb0] #[]),(6,pb b4),(9,sv aK aH aL),(15,.bool (decide ((ln aH)<p1)))] hF fun a hF=>?_
  refine wfn rfl ?_
  refine As hF rfl (fun hc=>?_) (fun hc=>?_)
  ·replace h:=Ao h hc
   refine wpIn_skip (A1 ?_)
   refine wpIn_block ?_
   refine esr ?_
   refine rn 1 1 [(0,pb cb0),(1,iv p1),(3,.func (.func 51) #[pb cb0] #[]),(6,pb b4),(9,sv aK aH aL),(16,pb cb0)] hF fun a hF=>?_
   replace h:=A4 h
   obtain ⟨cU,cP,h⟩:=h
   replace hS:=hS.s3.s3
   refine Dv (fun cB=>[(0,pb cb0),(1,iv p1),(3,.func (.func 51) #[pb cb0] #[]),(6,pb b4),(9,sv aK aH aL),(17,cB)]) hF kr ⟨kr⟩ (Aj F _ _ cP ν548 w0 w _ hlow aT hS) (fun _=>⟨kr⟩) ?_ ?_
   ·rintro cS w he_ ⟨ν581,cE,cG,b7,hlow,cJ,hS⟩
    replace h:=G3 h he_
    replace hext:=Frz.ext_trans hext b7
    replace hA3:=hA3.mono b7.1
    replace aT:=aT.mono b7.1
    replace aO:=Frz.le_trans aO b7.1
    replace aP:=Frz.le_trans aP b7.1
    refine A6<|Ai<|A6<|Ai<|A6<|B1 hF ?_
    have hr_:=Option.some.inj h
    subst hr_
    replace hS:=hS.d3.d2
    exact .inr ⟨_,rfl,rfl,ν581,cE,cG,hext,hlow,cJ,hS⟩
   rintro aG cB w a he_ ⟨ν575,b1,b3,b6,hlow,rfl,aU,hS⟩ hF
   replace h:=G4 h he_
   replace hext:=Frz.ext_trans hext b6
   replace hA3:=hA3.mono b6.1
   replace aT:=aT.mono b6.1
   replace aO:=Frz.le_trans aO b6.1
   replace aP:=Frz.le_trans aP b6.1
   refine rn 1 3 [(0,pb cb0),(1,iv p1),(3,.func (.func 51) #[pb cb0] #[]),(6,pb b4),(9,sv aK aH aL),(10,iv aG.1)] hF fun a hF=>?_
   refine wfn rfl ?_
   refine Ei (fun a w=>Fr 49 [] [(0,pb cb0),(1,iv p1),(3,.func (.func 51) #[pb cb0] #[]),(6,pb b4),(9,sv aK aH aL),(10,iv aG.1)] a∧St w0 (fz w0 ν575::blk cb0 98 #[sv b1 aG.2.b b3]::arr 88 14 api_Echo.cells aK aH.length aL aH::blk b4 88 #[iv a1,iv a2,iv a7,iv a8,iv a9,iv aA,iv aB,iv aC,iv aD,iv aE,iv a3,iv a4,iv a5,iv a6]::T_) w∧D1 F p1 a1 a2 a3 a4 a5 a6 a7 a8 a9 aA aB aC aD aE aH k2 aG=some res) ?_ ?_
   ·skip
    refine esr ?_
    replace h:=A4 h
    obtain ⟨cD,cO,h⟩:=h
    refine rno 6 [.run [] (binOp .sub 3 (iv p1) (iv (ln aH))) (iv cD)] 6 [(0,pb cb0),(1,iv p1),(3,.func (.func 51) #[pb cb0] #[]),(6,pb b4),(9,sv aK aH aL),(10,iv aG.1),(23,.bool (decide (aG.1>cD)))] hF (A0 (Jk (fun _=>cO)) Aa) fun a hF=>?_
    refine wfn rfl ?_
    refine As hF rfl (fun hc=>?_) (fun hc=>?_)
    ·replace h:=Ao h hc
     refine WI.region ?_
     refine rn 1 1 [(0,pb cb0),(1,iv p1),(3,.func (.func 51) #[pb cb0] #[]),(6,pb b4),(9,sv aK aH aL),(10,iv aG.1),(24,.iface 101 (iv 7))] hF fun a hF=>?_
     refine Nb (t:=101) (v:=iv 7) hF ⟨kr⟩ (A6<|Ai<|A6<|Ai<|A6<|B1 hF ?_)
     have hr_:=Option.some.inj h
     subst hr_
     replace hS:=hS.d3.d2
     exact .inr ⟨_,rfl,rfl,ν575,b1,b3,hext,hlow,aU,hS⟩
    ·replace h:=An h hc
     refine wpIn_skip (A1 ?_)
     exact ⟨hF.sub kr,hS,h⟩
   rintro a w ⟨hF,hS,h⟩
   rw [D1] at h
   refine Ei (fun a w=>∃(aF:(List api_Echo)) (aI:Option Addr) (aJ:Nat),Fr 49 [] [(0,pb cb0),(1,iv p1),(3,.func (.func 51) #[pb cb0] #[]),(6,pb b4),(9,sv aI aF aJ)] a∧St w0 (arr 88 14 api_Echo.cells aI aF.length aJ aF::fz w0 ν575::blk cb0 98 #[sv b1 aG.2.b b3]::blk b4 88 #[iv a1,iv a2,iv a7,iv a8,iv a9,iv aA,iv aB,iv aC,iv aD,iv aE,iv a3,iv a4,iv a5,iv a6]::T_) w∧C6 F p1 a1 a2 a3 a4 a5 a6 a7 a8 a9 aA aB aC aD aE k2 aG aF=some res) ?_ ?_
   ·skip
    refine esr ?_
    refine rn 2 2 [(0,pb cb0),(1,iv p1),(3,.func (.func 51) #[pb cb0] #[]),(6,pb b4),(9,sv aK aH aL),(25,iv aG.1),(26,iv 0)] hF fun a hF=>?_
    refine wfn rfl ?_
    refine wpIn_block ?_
    refine E4 (fun n_ a w=>∃(aQ:Int) (aM:(List api_Echo)) (aR:Option Addr) (aS:Nat),Fr 49 [] [(0,pb cb0),(1,iv p1),(3,.func (.func 51) #[pb cb0] #[]),(6,pb b4),(9,sv aR aM aS),(25,iv aG.1),(26,iv aQ)] a∧St w0 (arr 88 14 api_Echo.cells aR aM.length aS aM::fz w0 ν575::blk cb0 98 #[sv b1 aG.2.b b3]::blk b4 88 #[iv a1,iv a2,iv a7,iv a8,iv a9,iv aA,iv aB,iv aC,iv aD,iv aE,iv a3,iv a4,iv a5,iv a6]::T_) w∧Bf F p1 a1 a2 a3 a4 a5 a6 a7 a8 a9 aA aB aC aD aE k2 aG n_ aQ aM=some res) F ⟨0,aH,aK,aL,hF.sub kr,hS.s2,h⟩ ?_
    rintro nk6 a w ⟨aQ,aM,aR,aS,hF,hS,h⟩
    rcases nk6 with _|nk6
    ·cases (show (none:Option (Except (Value×volume_reader) ((List api_Echo)×volume_reader)))=some res from h)
    obtain ⟨k6,hk6⟩:∃k,k=Bf F p1 a1 a2 a3 a4 a5 a6 a7 a8 a9 aA aB aC aD aE k2 aG nk6:=⟨_,rfl⟩
    replace h:D0 F p1 a1 a2 a3 a4 a5 a6 a7 a8 a9 aA aB aC aD aE k2 aG k6 aQ aM=some res:=by rw [hk6];exact h
    rw [D0] at h
    refine esr ?_
    refine rn 1 1 [(0,pb cb0),(1,iv p1),(3,.func (.func 51) #[pb cb0] #[]),(6,pb b4),(9,sv aR aM aS),(25,iv aG.1),(26,iv aQ),(27,.bool (decide (aQ<aG.1)))] hF fun a hF=>?_
    refine wfn rfl ?_
    refine B0 ?_
    refine As hF rfl (fun hc=>?_) (fun hc=>?_)
    ·replace h:=Ao h hc
     refine wpIn_skip (A1 ?_)
     refine B0 ?_
     refine wpIn_block ?_
     refine WI.region ?_
     refine rno 2 [.run [] (Instr.loadAt 88 (pb b4)) (.agg #[iv a1,iv a2,iv a7,iv a8,iv a9,iv aA,iv aB,iv aC,iv aD,iv aE,iv a3,iv a4,iv a5,iv a6])] 2 [(0,pb cb0),(1,iv p1),(3,.func (.func 51) #[pb cb0] #[]),(6,pb b4),(9,sv aR aM aS),(25,iv aG.1),(26,iv aQ),(28,sv aR aM aS),(29,.agg #[iv a1,iv a2,iv a7,iv a8,iv a9,iv aA,iv aB,iv aC,iv aD,iv aE,iv a3,iv a4,iv a5,iv a6])] hF (A0 (obN (us:=[iv a1,iv a2,iv a7,iv a8,iv a9,iv aA,iv aB,iv aC,iv aD,iv aE,iv a3,iv a4,iv a5,iv a6]) kr (fun _ hd=>((hS.at_ hd).blk (i:=3) rfl).cells rfl)) Aa) fun a hF=>?_
     refine SK.wi (G0 (e:=88) (sz:=14) (f:=api_Echo.cells) (t:=83) (len:=1) (fun c5=>[(0,pb cb0),(1,iv p1),(3,.func (.func 51) #[pb cb0] #[]),(6,pb b4),(9,sv aR aM aS),(25,iv aG.1),(26,iv aQ),(28,sv aR aM aS),(30,sb c5 1)]) #[(0,.agg #[iv a1,iv a2,iv a7,iv a8,iv a9,iv aA,iv aB,iv aC,iv aD,iv aE,iv a3,iv a4,iv a5,iv a6])] #[iv a1,iv a2,iv a7,iv a8,iv a9,iv aA,iv aB,iv aC,iv aD,iv aE,iv a3,iv a4,iv a5,iv a6] ([(api_Echo.mk a1 (api_Span.mk a2 a7) ((api_Span.mk a8 a9),(api_Span.mk aA aB)) aC (api_Span.mk aD aE) (api_Span.mk a3 a4) (api_Span.mk a5 a6))]) hF hS kr ⟨kr⟩ kr api_Echo.cells_len rfl rfl kr (fun _=>⟨kr⟩) fun c5 w a hF hS=>?_)
     replace h:=A4 h
     obtain ⟨bG,cM,h⟩:=h
     refine SK.wi (S4 (t:=83) (ty:=83) (bytes:=112) (l:=aM) (l':=([(api_Echo.mk a1 (api_Span.mk a2 a7) ((api_Span.mk a8 a9),(api_Span.mk aA aB)) aC (api_Span.mk aD aE) (api_Span.mk a3 a4) (api_Span.mk a5 a6))])) (fun b2 b5=>[(0,pb cb0),(1,iv p1),(3,.func (.func 51) #[pb cb0] #[]),(6,pb b4),(9,sv aR aM aS),(25,iv aG.1),(26,iv aQ),(31,sv b2 bG b5)]) 1 hF hS rfl kr ⟨kr⟩ kr (hS.arr (i:=0) rfl) (fun _ _=>rfl) cM (fun _ _=>⟨kr⟩) fun b2 b5 w a hF hS=>?_)
     refine rn 1 5 [(0,pb cb0),(1,iv p1),(3,.func (.func 51) #[pb cb0] #[]),(6,pb b4),(9,sv b2 bG b5),(25,iv aG.1),(26,iv aQ)] hF fun a hF=>?_
     refine WI.fin rfl (Ac<|A1<|?_)
     refine WI.region ?_
     replace h:=A4 h
     obtain ⟨c0,cN,h⟩:=h
     refine rno 2 [.run [] (binOp .add 3 (iv aQ) (iv 1)) (iv c0)] 2 [(0,pb cb0),(1,iv p1),(3,.func (.func 51) #[pb cb0] #[]),(6,pb b4),(9,sv b2 bG b5),(25,iv aG.1),(26,iv c0)] hF (A0 (Aw (fun _=>cN)) Aa) fun a hF=>?_
     refine wfn rfl ?_
     rw [hk6] at h
     exact ⟨nk6,Nat.lt_succ_self _,c0,bG,b2,b5,hF.sub kr,hS.d0,h⟩
    ·replace h:=An h hc
     refine wpIn_exit (Ad<|Ad<|Bb<|A1 ?_)
     exact ⟨aM,aR,aS,hF.sub kr,hS,h⟩
   rintro a w ⟨aF,aI,aJ,hF,hS,h⟩
   rw [C6] at h
   refine esr ?_
   refine rn 4 4 [(0,pb cb0),(1,iv p1),(3,.func (.func 51) #[pb cb0] #[]),(6,pb b4),(9,sv aI aF aJ),(36,.bool (decide ((ln aF)<p1)))] hF fun a hF=>?_
   refine wfn rfl ?_
   refine As hF rfl (fun hc=>?_) (fun hc=>?_)
   ·replace h:=Ao h hc
    refine esr ?_
    refine rn 1 1 [(0,pb cb0),(1,iv p1),(3,.func (.func 51) #[pb cb0] #[]),(6,pb b4),(9,sv aI aF aJ),(37,.func (.func 51) #[pb cb0] #[])] hF fun a hF=>?_
    replace h:=A4 h
    obtain ⟨cV,cQ,h⟩:=h
    replace hS:=hS.s2.s2
    refine Dv (fun cC=>[(0,pb cb0),(1,iv p1),(3,.func (.func 51) #[pb cb0] #[]),(6,pb b4),(9,sv aI aF aJ),(38,cC)]) hF kr ⟨kr⟩ (Nc F _ _ cQ ν575 w0 w _ hlow aU hS) (fun _=>⟨kr⟩) ?_ ?_
    ·rintro cT w he_ ⟨ν623,cF,cH,aZ,hlow,cK,hS⟩
     replace h:=G3 h he_
     replace hext:=Frz.ext_trans hext aZ
     replace hA3:=hA3.mono aZ.1
     replace aT:=aT.mono aZ.1
     replace aU:=aU.mono aZ.1
     replace aO:=Frz.le_trans aO aZ.1
     replace aP:=Frz.le_trans aP aZ.1
     refine A6<|Ai<|A6<|Ai<|A6<|B1 hF ?_
     have hr_:=Option.some.inj h
     subst hr_
     replace hS:=hS.d3.d2
     exact .inr ⟨_,rfl,rfl,ν623,cF,cH,hext,hlow,cK,hS⟩
    rintro a0 cC w a he_ ⟨ν617,bH,bI,aY,hlow,rfl,c9,hS⟩ hF
    replace h:=G4 h he_
    replace hext:=Frz.ext_trans hext aY
    replace hA3:=hA3.mono aY.1
    replace aT:=aT.mono aY.1
    replace aU:=aU.mono aY.1
    replace aO:=Frz.le_trans aO aY.1
    replace aP:=Frz.le_trans aP aY.1
    refine SK.wi (Bs (t:=88) (fun aN=>[(0,pb cb0),(1,iv p1),(3,.func (.func 51) #[pb cb0] #[]),(6,pb b4),(9,sv aI aF aJ),(11,pb aN),(38,a0.1.ag)]) #[iv 0,iv 0,iv 0,iv 0,iv 0,iv 0,iv 0,iv 0,iv 0,iv 0,iv 0,iv 0,iv 0,iv 0] hF hS kr ⟨kr⟩ kr (fun _=>⟨kr⟩) fun aN w a hF hS=>?_)
    refine SK.wi (Ap (t:=88) [(0,pb cb0),(1,iv p1),(3,.func (.func 51) #[pb cb0] #[]),(6,pb b4),(9,sv aI aF aJ),(11,pb aN)] 0 0 (a0.1.ag) a0.1.ar hF hS rfl kr ⟨kr⟩ kr kr kr kr ⟨kr⟩ fun w a hF hS=>?_)
    refine wfn rfl ?_
    refine Ei (fun a w=>Fr 49 [] [(0,pb cb0),(1,iv p1),(3,.func (.func 51) #[pb cb0] #[]),(6,pb b4),(9,sv aI aF aJ),(11,pb aN)] a∧St w0 (blk aN 88 a0.1.ar::fz w0 ν617::blk cb0 98 #[sv bH a0.2.b bI]::arr 88 14 api_Echo.cells aI aF.length aJ aF::blk b4 88 #[iv a1,iv a2,iv a7,iv a8,iv a9,iv aA,iv aB,iv aC,iv aD,iv aE,iv a3,iv a4,iv a5,iv a6]::T_) w∧D2 k2 aF a0=some res) ?_ ?_
    ·skip
     refine esr ?_
     refine rno 3 [.run [] (Instr.loadAt 88 (pb aN)) (a0.1.ag),.run [] (Instr.loadAt 88 (pb b4)) (.agg #[iv a1,iv a2,iv a7,iv a8,iv a9,iv aA,iv aB,iv aC,iv aD,iv aE,iv a3,iv a4,iv a5,iv a6]),.run [] (eqS .eql 88 a0.1.ar #[iv a1,iv a2,iv a7,iv a8,iv a9,iv aA,iv aB,iv aC,iv aD,iv aE,iv a3,iv a4,iv a5,iv a6]) (.bool (((a0.1.Kind:Int)==a1)&&((((a0.1.Power.Lo:Int)==a2)&&(((a0.1.Power.Hi:Int)==a7)&&true))&&(((((a0.1.Steps.1.Lo:Int)==a8)&&(((a0.1.Steps.1.Hi:Int)==a9)&&true))&&((((a0.1.Steps.2.Lo:Int)==aA)&&(((a0.1.Steps.2.Hi:Int)==aB)&&true))&&true))&&(((a0.1.Spread:Int)==aC)&&((((a0.1.Ratio.Lo:Int)==aD)&&(((a0.1.Ratio.Hi:Int)==aE)&&true))&&((((a0.1.Match.Lo:Int)==a3)&&(((a0.1.Match.Hi:Int)==a4)&&true))&&((((a0.1.Turn.Lo:Int)==a5)&&(((a0.1.Turn.Hi:Int)==a6)&&true))&&true))))))))] 3 [(0,pb cb0),(1,iv p1),(3,.func (.func 51) #[pb cb0] #[]),(6,pb b4),(9,sv aI aF aJ),(11,pb aN),(41,.bool (((a0.1.Kind:Int)==a1)&&((((a0.1.Power.Lo:Int)==a2)&&(((a0.1.Power.Hi:Int)==a7)&&true))&&(((((a0.1.Steps.1.Lo:Int)==a8)&&(((a0.1.Steps.1.Hi:Int)==a9)&&true))&&((((a0.1.Steps.2.Lo:Int)==aA)&&(((a0.1.Steps.2.Hi:Int)==aB)&&true))&&true))&&(((a0.1.Spread:Int)==aC)&&((((a0.1.Ratio.Lo:Int)==aD)&&(((a0.1.Ratio.Hi:Int)==aE)&&true))&&((((a0.1.Match.Lo:Int)==a3)&&(((a0.1.Match.Hi:Int)==a4)&&true))&&((((a0.1.Turn.Lo:Int)==a5)&&(((a0.1.Turn.Hi:Int)==a6)&&true))&&true))))))))] hF (A0 (obN (us:=a0.1.cells) kr (fun _ hd=>((hS.at_ hd).blk (i:=0) rfl).cells rfl)) (A0 (obN (us:=[iv a1,iv a2,iv a7,iv a8,iv a9,iv aA,iv aB,iv aC,iv aD,iv aE,iv a3,iv a4,iv a5,iv a6]) kr (fun _ hd=>((hS.at_ hd).blk (i:=4) rfl).cells rfl)) (A0 (Mo kr kr) Aa))) fun a hF=>?_
     refine wfn rfl ?_
     refine As hF rfl (fun hc=>?_) (fun hc=>?_)
     ·replace h:=Ao h hc
      refine WI.region ?_
      refine rn 1 1 [(0,pb cb0),(1,iv p1),(3,.func (.func 51) #[pb cb0] #[]),(6,pb b4),(9,sv aI aF aJ),(11,pb aN),(42,.iface 101 (iv 7))] hF fun a hF=>?_
      refine Nb (t:=101) (v:=iv 7) hF ⟨kr⟩ (A6<|Ai<|A6<|Ai<|A6<|B1 hF ?_)
      have hr_:=Option.some.inj h
      subst hr_
      replace hS:=hS.d4.d3.d0
      exact .inr ⟨_,rfl,rfl,ν617,bH,bI,hext,hlow,c9,hS⟩
     ·replace h:=An h hc
      refine wpIn_skip (A1 ?_)
      exact ⟨hF.sub kr,hS,h⟩
    rintro a w ⟨hF,hS,h⟩
    rw [D2] at h
    refine esr ?_
    refine rno 1 [.run [] (Instr.loadAt 88 (pb aN)) (a0.1.ag)] 1 [(0,pb cb0),(1,iv p1),(3,.func (.func 51) #[pb cb0] #[]),(6,pb b4),(9,sv aI aF aJ),(11,pb aN),(43,a0.1.ag)] hF (A0 (obN (us:=a0.1.cells) kr (fun _ hd=>((hS.at_ hd).blk (i:=0) rfl).cells rfl)) Aa) fun a hF=>?_
    refine SK.wi (Ap (t:=88) [(0,pb cb0),(1,iv p1),(3,.func (.func 51) #[pb cb0] #[]),(6,pb b4),(9,sv aI aF aJ),(11,pb aN)] 4 0 (a0.1.ag) a0.1.ar hF hS rfl kr ⟨kr⟩ kr kr kr kr ⟨kr⟩ fun w a hF hS=>?_)
    refine wfn rfl ?_
    refine WI.region ?_
    refine rno 2 [.run [] (Instr.loadAt 88 (pb aN)) (a0.1.ag)] 2 [(0,pb cb0),(1,iv p1),(3,.func (.func 51) #[pb cb0] #[]),(6,pb b4),(9,sv aI aF aJ),(44,sv aI aF aJ),(45,a0.1.ag)] hF (A0 (obN (us:=a0.1.cells) kr (fun _ hd=>((hS.at_ hd).blk (i:=0) rfl).cells rfl)) Aa) fun a hF=>?_
    refine SK.wi (G0 (e:=88) (sz:=14) (f:=api_Echo.cells) (t:=83) (len:=1) (fun c4=>[(0,pb cb0),(1,iv p1),(3,.func (.func 51) #[pb cb0] #[]),(6,pb b4),(9,sv aI aF aJ),(44,sv aI aF aJ),(46,sb c4 1)]) #[(0,a0.1.ag)] a0.1.ar ([(api_Echo.mk a0.1.Kind (api_Span.mk a0.1.Power.Lo a0.1.Power.Hi) ((api_Span.mk a0.1.Steps.1.Lo a0.1.Steps.1.Hi),(api_Span.mk a0.1.Steps.2.Lo a0.1.Steps.2.Hi)) a0.1.Spread (api_Span.mk a0.1.Ratio.Lo a0.1.Ratio.Hi) (api_Span.mk a0.1.Match.Lo a0.1.Match.Hi) (api_Span.mk a0.1.Turn.Lo a0.1.Turn.Hi))]) hF hS kr ⟨kr⟩ kr api_Echo.cells_len rfl rfl kr (fun _=>⟨kr⟩) fun c4 w a hF hS=>?_)
    replace h:=A4 h
    obtain ⟨bL,cL,h⟩:=h
    refine SK.wi (S4 (t:=83) (ty:=83) (bytes:=112) (l:=aF) (l':=([(api_Echo.mk a0.1.Kind (api_Span.mk a0.1.Power.Lo a0.1.Power.Hi) ((api_Span.mk a0.1.Steps.1.Lo a0.1.Steps.1.Hi),(api_Span.mk a0.1.Steps.2.Lo a0.1.Steps.2.Hi)) a0.1.Spread (api_Span.mk a0.1.Ratio.Lo a0.1.Ratio.Hi) (api_Span.mk a0.1.Match.Lo a0.1.Match.Hi) (api_Span.mk a0.1.Turn.Lo a0.1.Turn.Hi))])) (fun bA bD=>[(0,pb cb0),(1,iv p1),(3,.func (.func 51) #[pb cb0] #[]),(6,pb b4),(9,sv aI aF aJ),(47,sv bA bL bD)]) 4 hF hS rfl kr ⟨kr⟩ kr (hS.arr (i:=0) rfl) (fun _ _=>rfl) cL (fun _ _=>⟨kr⟩) fun bA bD w a hF hS=>?_)
    refine rn 1 5 [(0,pb cb0),(1,iv p1),(3,.func (.func 51) #[pb cb0] #[]),(6,pb b4),(9,sv bA bL bD)] hF fun a hF=>?_
    refine WI.fin rfl (Ac<|A1<|?_)
    rw [hk2] at h
    exact ⟨nk2,Nat.lt_succ_self _,a0.1.Kind,a0.1.Power.Lo,a0.1.Match.Lo,a0.1.Match.Hi,a0.1.Turn.Lo,a0.1.Turn.Hi,a0.1.Power.Hi,a0.1.Steps.1.Lo,a0.1.Steps.1.Hi,a0.1.Steps.2.Lo,a0.1.Steps.2.Hi,a0.1.Spread,a0.1.Ratio.Lo,a0.1.Ratio.Hi,a0.2.b,bL,ν617,bH,bI,bA,bD,hF.sub kr,hS.d1.d0.s3.s3,c9,aP,hext,hlow,h⟩
   ·replace h:=An h hc
    refine wpIn_skip (Ac<|A1<|?_)
    rw [hk2] at h
    exact ⟨nk2,Nat.lt_succ_self _,a1,a2,a3,a4,a5,a6,a7,a8,a9,aA,aB,aC,aD,aE,aG.2.b,aF,ν575,b1,b3,aI,aJ,hF.sub kr,hS.s3.s1,aU,aP,hext,hlow,h⟩
  ·replace h:=An h hc
   refine wpIn_exit (Ad<|Ad<|Bb<|A1 ?_)
   exact ⟨a1,a2,a3,a4,a5,a6,a7,a8,a9,aA,aB,aC,aD,aE,b0,aH,ν548,b9,bC,aK,aL,hF.sub kr,hS,aT,aO,hext,hlow,h⟩
 clear aO
 rintro a w ⟨bM,bN,bO,bP,bQ,bR,bS,bT,bU,bV,bW,bX,bY,bZ,bF,aV,ν319,b8,bB,aW,aX,hF,hS,bJ,bK,hext,hlow,h⟩
 replace hA3:=hA3.mono bK
 rw [C5] at h
 refine esr ?_
 refine rn 2 2 [(8,sv aW aV aX)] hF fun a hF=>?_
 refine wfn rfl ?_
 refine wpIn_ret (Ak [.tmp 8] [sv aW aV aX] hF rfl ⟨rfl,trivial⟩ ?_)
 obtain ⟨ν342,bE,hlow,hS,cR⟩:=hS.freeze (i:=2) (j:=0) rfl rfl (by decide) hlow
 replace hA3:=hA3.mono bE.1
 replace bJ:=bJ.mono bE.1
 replace bK:=Frz.le_trans bK bE.1
 replace hext:=Frz.ext_trans hext bE
 have cI:=ArrM.of_arr cR
 have hr_:=Option.some.inj h
 subst hr_
 replace hS:=hS.d0
 exact .inl ⟨_,_,rfl,rfl,ν342,aW,aX,b8,bB,hext,hlow,rfl,cI,bJ,hS⟩
theorem Ki (F:Nat) (p0:volume_reader) (p1:Int) (p2:api_Span) (res:Except (Value×volume_reader) ((List api_Span)×volume_reader)) (h:Cj F p0 p1 p2=some res) (μ:Frz) (w0 w1:World) (T_:List Res) (hlow:Ba w0 μ) {cb0:Nat} {ad1:Option Addr} {cap2:Nat} (hA3:ArrM μ 1 (fK .u8) ad1 cap2 p0.b) (hS:St w0 (fz w0 μ::blk cb0 98 #[sv ad1 p0.b cap2]::T_) w1):Mx Try.prog 53 #[pb cb0,iv p1,.agg #[iv p2.Lo,iv p2.Hi],.func (.func 54) #[pb cb0] #[]] w1 res (fun r_ e w=>∃(ν_:Frz) (bD:Option Addr) (bI:Nat) (bE:Option Addr) (bJ:Nat),μ.ext w0.heap.size ν_∧Ba w0 ν_∧e=(sv bD r_.1 bI)∧ArrM ν_ 2 api_Span.cells bD bI r_.1∧(ArrM ν_ 1 (fK .u8) bE bJ r_.2.b)∧St w0 (fz w0 ν_::blk cb0 98 #[sv bE r_.2.b bJ]::T_) w) (fun e_ w=>∃(ν_:Frz) (bF:Option Addr) (bK:Nat),μ.ext w0.heap.size ν_∧Ba w0 ν_∧(ArrM ν_ 1 (fK .u8) bF bK e_.b)∧St w0 (fz w0 ν_::blk cb0 98 #[sv bF e_.b bK]::T_) w):=by
 rw [Cj] at h
 have hext:=Frz.ext_refl w0.heap.size μ
 refine Aq Try.func53 rfl 49 [(0,pb cb0),(1,iv p1),(2,.agg #[iv p2.Lo,iv p2.Hi]),(3,.func (.func 54) #[pb cb0] #[])] rfl rfl kr fun a w hw hF=>?_
 replace hS:=hS.cast hw
 clear hw
 refine esr ?_
 refine SK.wi (H4 (t:=85) (fun b4=>[(0,pb cb0),(1,iv p1),(3,.func (.func 54) #[pb cb0] #[]),(6,pb b4)]) (.agg #[iv p2.Lo,iv p2.Hi]) #[iv p2.Lo,iv p2.Hi] hF hS kr ⟨kr⟩ kr (fun _=>⟨kr⟩) fun b4 w a hF hS=>?_)
 refine rn 1 2 [(0,pb cb0),(1,iv p1),(3,.func (.func 54) #[pb cb0] #[]),(6,pb b4)] hF fun a hF=>?_
 refine wfn rfl ?_
 refine esr ?_
 refine rn 1 1 [(0,pb cb0),(1,iv p1),(3,.func (.func 54) #[pb cb0] #[]),(6,pb b4),(9,.slice none 0 0)] hF fun a hF=>?_
 refine wfn rfl ?_
 have aC:=Frz.le_refl μ
 refine Ei (fun a w=>∃(bA:Int) (bB:Int) (b2:(List Int)) (aJ:(List api_Span)) (ν295:Frz) (aV:Option Addr) (aY:Nat) (aK:Option Addr) (aL:Nat),Fr 49 [] [(9,sv aK aJ aL)] a∧St w0 (arr 85 2 api_Span.cells aK aJ.length aL aJ::blk b4 85 #[iv bA,iv bB]::fz w0 ν295::blk cb0 98 #[sv aV b2 aY]::T_) w∧(ArrM ν295 1 (fK .u8) aV aY b2)∧(μ.le ν295)∧(μ.ext w0.heap.size ν295)∧(Ba w0 ν295)∧C8 bA bB b2 aJ=some res) ?_ ?_
 ·skip
  refine wpIn_block ?_
  have bM:=Frz.le_refl μ
  replace hS:=hS.nilarr 85 2 api_Span.cells
  refine E4 (fun n_ a w=>∃(a1:Int) (a2:Int) (aO:(List Int)) (a5:(List api_Span)) (ν500:Frz) (aW:Option Addr) (aZ:Nat) (a8:Option Addr) (a9:Nat),Fr 49 [] [(0,pb cb0),(1,iv p1),(3,.func (.func 54) #[pb cb0] #[]),(6,pb b4),(9,sv a8 a5 a9)] a∧St w0 (arr 85 2 api_Span.cells a8 a5.length a9 a5::blk b4 85 #[iv a1,iv a2]::fz w0 ν500::blk cb0 98 #[sv aW aO aZ]::T_) w∧(ArrM ν500 1 (fK .u8) aW aZ aO)∧(μ.le ν500)∧(μ.ext w0.heap.size ν500)∧(Ba w0 ν500)∧B9 F p1 n_ a1 a2 aO a5=some res) F ⟨p2.Lo,p2.Hi,p0.b,[],μ,ad1,cap2,none,0,hF.sub kr,hS,hA3,bM,hext,hlow,h⟩ ?_
  clear bM
  rintro nk2 a w ⟨a1,a2,aO,a5,ν500,aW,aZ,a8,a9,hF,hS,aH,aD,hext,hlow,h⟩
  rcases nk2 with _|nk2
  ·cases (show (none:Option (Except (Value×volume_reader) ((List api_Span)×volume_reader)))=some res from h)
  replace hA3:=hA3.mono aD
  replace aC:=Frz.le_trans aC aD
  obtain ⟨k2,hk2⟩:∃k,k=B9 F p1 nk2:=⟨_,rfl⟩
  replace h:C7 F p1 k2 a1 a2 aO a5=some res:=by rw [hk2];exact h
  rw [C7] at h
  refine B0 ?_
  refine esr ?_
  refine rn 4 4 [(0,pb cb0),(1,iv p1),(3,.func (.func 54) #[pb cb0] #[]),(6,pb b4),(9,sv a8 a5 a9),(15,.bool (decide ((ln a5)<p1)))] hF fun a hF=>?_
  refine wfn rfl ?_
  refine As hF rfl (fun hc=>?_) (fun hc=>?_)
  ·replace h:=Ao h hc
   refine wpIn_skip (A1 ?_)
   refine wpIn_block ?_
   refine esr ?_
   refine rn 1 1 [(0,pb cb0),(1,iv p1),(3,.func (.func 54) #[pb cb0] #[]),(6,pb b4),(9,sv a8 a5 a9),(16,pb cb0)] hF fun a hF=>?_
   replace h:=A4 h
   obtain ⟨c6,c1,h⟩:=h
   replace hS:=hS.s3.s3
   refine Dv (fun bN=>[(0,pb cb0),(1,iv p1),(3,.func (.func 54) #[pb cb0] #[]),(6,pb b4),(9,sv a8 a5 a9),(17,bN)]) hF kr ⟨kr⟩ (Aj F _ _ c1 ν500 w0 w _ hlow aH hS) (fun _=>⟨kr⟩) ?_ ?_
   ·rintro c4 w he_ ⟨ν521,bQ,bS,aU,hlow,bV,hS⟩
    replace h:=G3 h he_
    replace hext:=Frz.ext_trans hext aU
    replace hA3:=hA3.mono aU.1
    replace aH:=aH.mono aU.1
    replace aC:=Frz.le_trans aC aU.1
    replace aD:=Frz.le_trans aD aU.1
    refine A6<|Ai<|A6<|Ai<|A6<|B1 hF ?_
    have hr_:=Option.some.inj h
    subst hr_
    replace hS:=hS.d3.d2
    exact .inr ⟨_,rfl,rfl,ν521,bQ,bS,hext,hlow,bV,hS⟩
   rintro a4 bN w a he_ ⟨ν515,aP,aR,aT,hlow,rfl,aI,hS⟩ hF
   replace h:=G4 h he_
   replace hext:=Frz.ext_trans hext aT
   replace hA3:=hA3.mono aT.1
   replace aH:=aH.mono aT.1
   replace aC:=Frz.le_trans aC aT.1
   replace aD:=Frz.le_trans aD aT.1
   refine rn 1 3 [(0,pb cb0),(1,iv p1),(3,.func (.func 54) #[pb cb0] #[]),(6,pb b4),(9,sv a8 a5 a9),(10,iv a4.1)] hF fun a hF=>?_
   refine wfn rfl ?_
   refine Ei (fun a w=>Fr 49 [] [(0,pb cb0),(1,iv p1),(3,.func (.func 54) #[pb cb0] #[]),(6,pb b4),(9,sv a8 a5 a9),(10,iv a4.1)] a∧St w0 (fz w0 ν515::blk cb0 98 #[sv aP a4.2.b aR]::arr 85 2 api_Span.cells a8 a5.length a9 a5::blk b4 85 #[iv a1,iv a2]::T_) w∧D4 F p1 a1 a2 a5 k2 a4=some res) ?_ ?_
   ·skip
    refine esr ?_
    replace h:=A4 h
    obtain ⟨bP,c0,h⟩:=h
    refine rno 6 [.run [] (binOp .sub 3 (iv p1) (iv (ln a5))) (iv bP)] 6 [(0,pb cb0),(1,iv p1),(3,.func (.func 54) #[pb cb0] #[]),(6,pb b4),(9,sv a8 a5 a9),(10,iv a4.1),(23,.bool (decide (a4.1>bP)))] hF (A0 (Jk (fun _=>c0)) Aa) fun a hF=>?_
    refine wfn rfl ?_
    refine As hF rfl (fun hc=>?_) (fun hc=>?_)
    ·replace h:=Ao h hc
     refine WI.region ?_
     refine rn 1 1 [(0,pb cb0),(1,iv p1),(3,.func (.func 54) #[pb cb0] #[]),(6,pb b4),(9,sv a8 a5 a9),(10,iv a4.1),(24,.iface 101 (iv 7))] hF fun a hF=>?_
     refine Nb (t:=101) (v:=iv 7) hF ⟨kr⟩ (A6<|Ai<|A6<|Ai<|A6<|B1 hF ?_)
     have hr_:=Option.some.inj h
     subst hr_
     replace hS:=hS.d3.d2
     exact .inr ⟨_,rfl,rfl,ν515,aP,aR,hext,hlow,aI,hS⟩
    ·replace h:=An h hc
     refine wpIn_skip (A1 ?_)
     exact ⟨hF.sub kr,hS,h⟩
   rintro a w ⟨hF,hS,h⟩
   rw [D4] at h
   refine Ei (fun a w=>∃(a3:(List api_Span)) (a6:Option Addr) (a7:Nat),Fr 49 [] [(0,pb cb0),(1,iv p1),(3,.func (.func 54) #[pb cb0] #[]),(6,pb b4),(9,sv a6 a3 a7)] a∧St w0 (arr 85 2 api_Span.cells a6 a3.length a7 a3::fz w0 ν515::blk cb0 98 #[sv aP a4.2.b aR]::blk b4 85 #[iv a1,iv a2]::T_) w∧C9 F p1 a1 a2 k2 a4 a3=some res) ?_ ?_
   ·skip
    refine esr ?_
    refine rn 2 2 [(0,pb cb0),(1,iv p1),(3,.func (.func 54) #[pb cb0] #[]),(6,pb b4),(9,sv a8 a5 a9),(25,iv a4.1),(26,iv 0)] hF fun a hF=>?_
    refine wfn rfl ?_
    refine wpIn_block ?_
    refine E4 (fun n_ a w=>∃(aE:Int) (aA:(List api_Span)) (aF:Option Addr) (aG:Nat),Fr 49 [] [(0,pb cb0),(1,iv p1),(3,.func (.func 54) #[pb cb0] #[]),(6,pb b4),(9,sv aF aA aG),(25,iv a4.1),(26,iv aE)] a∧St w0 (arr 85 2 api_Span.cells aF aA.length aG aA::fz w0 ν515::blk cb0 98 #[sv aP a4.2.b aR]::blk b4 85 #[iv a1,iv a2]::T_) w∧Bg F p1 a1 a2 k2 a4 n_ aE aA=some res) F ⟨0,a5,a8,a9,hF.sub kr,hS.s2,h⟩ ?_
    rintro nk6 a w ⟨aE,aA,aF,aG,hF,hS,h⟩
    rcases nk6 with _|nk6
    ·cases (show (none:Option (Except (Value×volume_reader) ((List api_Span)×volume_reader)))=some res from h)
    obtain ⟨k6,hk6⟩:∃k,k=Bg F p1 a1 a2 k2 a4 nk6:=⟨_,rfl⟩
    replace h:D3 F p1 a1 a2 k2 a4 k6 aE aA=some res:=by rw [hk6];exact h
    rw [D3] at h
    refine esr ?_
    refine rn 1 1 [(0,pb cb0),(1,iv p1),(3,.func (.func 54) #[pb cb0] #[]),(6,pb b4),(9,sv aF aA aG),(25,iv a4.1),(26,iv aE),(27,.bool (decide (aE<a4.1)))] hF fun a hF=>?_
    refine wfn rfl ?_
    refine B0 ?_
    refine As hF rfl (fun hc=>?_) (fun hc=>?_)
    ·replace h:=Ao h hc
     refine wpIn_skip (A1 ?_)
     refine B0 ?_
     refine wpIn_block ?_
     refine WI.region ?_
     refine rno 2 [.run [] (Instr.loadAt 85 (pb b4)) (.agg #[iv a1,iv a2])] 2 [(0,pb cb0),(1,iv p1),(3,.func (.func 54) #[pb cb0] #[]),(6,pb b4),(9,sv aF aA aG),(25,iv a4.1),(26,iv aE),(28,sv aF aA aG),(29,.agg #[iv a1,iv a2])] hF (A0 (obN (us:=[iv a1,iv a2]) kr (fun _ hd=>((hS.at_ hd).blk (i:=3) rfl).cells rfl)) Aa) fun a hF=>?_
     refine SK.wi (G0 (e:=85) (sz:=2) (f:=api_Span.cells) (t:=42) (len:=1) (fun bH=>[(0,pb cb0),(1,iv p1),(3,.func (.func 54) #[pb cb0] #[]),(6,pb b4),(9,sv aF aA aG),(25,iv a4.1),(26,iv aE),(28,sv aF aA aG),(30,sb bH 1)]) #[(0,.agg #[iv a1,iv a2])] #[iv a1,iv a2] ([(api_Span.mk a1 a2)]) hF hS kr ⟨kr⟩ kr api_Span.cells_len rfl rfl kr (fun _=>⟨kr⟩) fun bH w a hF hS=>?_)
     replace h:=A4 h
     obtain ⟨b3,bY,h⟩:=h
     refine SK.wi (S4 (t:=42) (ty:=42) (bytes:=16) (l:=aA) (l':=([(api_Span.mk a1 a2)])) (fun aQ aS=>[(0,pb cb0),(1,iv p1),(3,.func (.func 54) #[pb cb0] #[]),(6,pb b4),(9,sv aF aA aG),(25,iv a4.1),(26,iv aE),(31,sv aQ b3 aS)]) 1 hF hS rfl kr ⟨kr⟩ kr (hS.arr (i:=0) rfl) (fun _ _=>rfl) bY (fun _ _=>⟨kr⟩) fun aQ aS w a hF hS=>?_)
     refine rn 1 5 [(0,pb cb0),(1,iv p1),(3,.func (.func 54) #[pb cb0] #[]),(6,pb b4),(9,sv aQ b3 aS),(25,iv a4.1),(26,iv aE)] hF fun a hF=>?_
     refine WI.fin rfl (Ac<|A1<|?_)
     refine WI.region ?_
     replace h:=A4 h
     obtain ⟨bC,bZ,h⟩:=h
     refine rno 2 [.run [] (binOp .add 3 (iv aE) (iv 1)) (iv bC)] 2 [(0,pb cb0),(1,iv p1),(3,.func (.func 54) #[pb cb0] #[]),(6,pb b4),(9,sv aQ b3 aS),(25,iv a4.1),(26,iv bC)] hF (A0 (Aw (fun _=>bZ)) Aa) fun a hF=>?_
     refine wfn rfl ?_
     rw [hk6] at h
     exact ⟨nk6,Nat.lt_succ_self _,bC,b3,aQ,aS,hF.sub kr,hS.d0,h⟩
    ·replace h:=An h hc
     refine wpIn_exit (Ad<|Ad<|Bb<|A1 ?_)
     exact ⟨aA,aF,aG,hF.sub kr,hS,h⟩
   rintro a w ⟨a3,a6,a7,hF,hS,h⟩
   rw [C9] at h
   refine esr ?_
   refine rn 4 4 [(0,pb cb0),(1,iv p1),(3,.func (.func 54) #[pb cb0] #[]),(6,pb b4),(9,sv a6 a3 a7),(36,.bool (decide ((ln a3)<p1)))] hF fun a hF=>?_
   refine wfn rfl ?_
   refine As hF rfl (fun hc=>?_) (fun hc=>?_)
   ·replace h:=Ao h hc
    refine esr ?_
    refine rn 1 1 [(0,pb cb0),(1,iv p1),(3,.func (.func 54) #[pb cb0] #[]),(6,pb b4),(9,sv a6 a3 a7),(37,.func (.func 54) #[pb cb0] #[])] hF fun a hF=>?_
    replace h:=A4 h
    obtain ⟨c7,c2,h⟩:=h
    replace hS:=hS.s2.s2
    refine Dv (fun bO=>[(0,pb cb0),(1,iv p1),(3,.func (.func 54) #[pb cb0] #[]),(6,pb b4),(9,sv a6 a3 a7),(38,bO)]) hF kr ⟨kr⟩ (Cm F _ _ c2 ν515 w0 w _ hlow aI hS) (fun _=>⟨kr⟩) ?_ ?_
    ·rintro c5 w he_ ⟨ν563,bR,bT,aN,hlow,bW,hS⟩
     replace h:=G3 h he_
     replace hext:=Frz.ext_trans hext aN
     replace hA3:=hA3.mono aN.1
     replace aH:=aH.mono aN.1
     replace aI:=aI.mono aN.1
     replace aC:=Frz.le_trans aC aN.1
     replace aD:=Frz.le_trans aD aN.1
     refine A6<|Ai<|A6<|Ai<|A6<|B1 hF ?_
     have hr_:=Option.some.inj h
     subst hr_
     replace hS:=hS.d3.d2
     exact .inr ⟨_,rfl,rfl,ν563,bR,bT,hext,hlow,bW,hS⟩
    rintro a0 bO w a he_ ⟨ν557,b5,b6,aM,hlow,rfl,bL,hS⟩ hF
    replace h:=G4 h he_
    replace hext:=Frz.ext_trans hext aM
    replace hA3:=hA3.mono aM.1
    replace aH:=aH.mono aM.1
    replace aI:=aI.mono aM.1
    replace aC:=Frz.le_trans aC aM.1
    replace aD:=Frz.le_trans aD aM.1
    refine SK.wi (Bs (t:=85) (fun aB=>[(0,pb cb0),(1,iv p1),(3,.func (.func 54) #[pb cb0] #[]),(6,pb b4),(9,sv a6 a3 a7),(11,pb aB),(38,.agg #[iv a0.1.Lo,iv a0.1.Hi])]) #[iv 0,iv 0] hF hS kr ⟨kr⟩ kr (fun _=>⟨kr⟩) fun aB w a hF hS=>?_)
    refine SK.wi (Ap (t:=85) [(0,pb cb0),(1,iv p1),(3,.func (.func 54) #[pb cb0] #[]),(6,pb b4),(9,sv a6 a3 a7),(11,pb aB)] 0 0 (.agg #[iv a0.1.Lo,iv a0.1.Hi]) #[iv a0.1.Lo,iv a0.1.Hi] hF hS rfl kr ⟨kr⟩ kr kr kr kr ⟨kr⟩ fun w a hF hS=>?_)
    refine wfn rfl ?_
    refine Ei (fun a w=>Fr 49 [] [(0,pb cb0),(1,iv p1),(3,.func (.func 54) #[pb cb0] #[]),(6,pb b4),(9,sv a6 a3 a7),(11,pb aB)] a∧St w0 (blk aB 85 #[iv a0.1.Lo,iv a0.1.Hi]::fz w0 ν557::blk cb0 98 #[sv b5 a0.2.b b6]::arr 85 2 api_Span.cells a6 a3.length a7 a3::blk b4 85 #[iv a1,iv a2]::T_) w∧D5 k2 a3 a0=some res) ?_ ?_
    ·skip
     refine esr ?_
     refine rno 3 [.run [] (Instr.loadAt 85 (pb aB)) (.agg #[iv a0.1.Lo,iv a0.1.Hi]),.run [] (Instr.loadAt 85 (pb b4)) (.agg #[iv a1,iv a2]),.run [] (eqS .eql 85 #[iv a0.1.Lo,iv a0.1.Hi] #[iv a1,iv a2]) (.bool (((a0.1.Lo:Int)==a1)&&(((a0.1.Hi:Int)==a2)&&true)))] 3 [(0,pb cb0),(1,iv p1),(3,.func (.func 54) #[pb cb0] #[]),(6,pb b4),(9,sv a6 a3 a7),(11,pb aB),(41,.bool (((a0.1.Lo:Int)==a1)&&(((a0.1.Hi:Int)==a2)&&true)))] hF (A0 (obN (us:=[iv a0.1.Lo,iv a0.1.Hi]) kr (fun _ hd=>((hS.at_ hd).blk (i:=0) rfl).cells rfl)) (A0 (obN (us:=[iv a1,iv a2]) kr (fun _ hd=>((hS.at_ hd).blk (i:=4) rfl).cells rfl)) (A0 (Mo kr kr) Aa))) fun a hF=>?_
     refine wfn rfl ?_
     refine As hF rfl (fun hc=>?_) (fun hc=>?_)
     ·replace h:=Ao h hc
      refine WI.region ?_
      refine rn 1 1 [(0,pb cb0),(1,iv p1),(3,.func (.func 54) #[pb cb0] #[]),(6,pb b4),(9,sv a6 a3 a7),(11,pb aB),(42,.iface 101 (iv 7))] hF fun a hF=>?_
      refine Nb (t:=101) (v:=iv 7) hF ⟨kr⟩ (A6<|Ai<|A6<|Ai<|A6<|B1 hF ?_)
      have hr_:=Option.some.inj h
      subst hr_
      replace hS:=hS.d4.d3.d0
      exact .inr ⟨_,rfl,rfl,ν557,b5,b6,hext,hlow,bL,hS⟩
     ·replace h:=An h hc
      refine wpIn_skip (A1 ?_)
      exact ⟨hF.sub kr,hS,h⟩
    rintro a w ⟨hF,hS,h⟩
    rw [D5] at h
    refine esr ?_
    refine rno 1 [.run [] (Instr.loadAt 85 (pb aB)) (.agg #[iv a0.1.Lo,iv a0.1.Hi])] 1 [(0,pb cb0),(1,iv p1),(3,.func (.func 54) #[pb cb0] #[]),(6,pb b4),(9,sv a6 a3 a7),(11,pb aB),(43,.agg #[iv a0.1.Lo,iv a0.1.Hi])] hF (A0 (obN (us:=[iv a0.1.Lo,iv a0.1.Hi]) kr (fun _ hd=>((hS.at_ hd).blk (i:=0) rfl).cells rfl)) Aa) fun a hF=>?_
    refine SK.wi (Ap (t:=85) [(0,pb cb0),(1,iv p1),(3,.func (.func 54) #[pb cb0] #[]),(6,pb b4),(9,sv a6 a3 a7),(11,pb aB)] 4 0 (.agg #[iv a0.1.Lo,iv a0.1.Hi]) #[iv a0.1.Lo,iv a0.1.Hi] hF hS rfl kr ⟨kr⟩ kr kr kr kr ⟨kr⟩ fun w a hF hS=>?_)
    refine wfn rfl ?_
    refine WI.region ?_
    refine rno 2 [.run [] (Instr.loadAt 85 (pb aB)) (.agg #[iv a0.1.Lo,iv a0.1.Hi])] 2 [(0,pb cb0),(1,iv p1),(3,.func (.func 54) #[pb cb0] #[]),(6,pb b4),(9,sv a6 a3 a7),(44,sv a6 a3 a7),(45,.agg #[iv a0.1.Lo,iv a0.1.Hi])] hF (A0 (obN (us:=[iv a0.1.Lo,iv a0.1.Hi]) kr (fun _ hd=>((hS.at_ hd).blk (i:=0) rfl).cells rfl)) Aa) fun a hF=>?_
    refine SK.wi (G0 (e:=85) (sz:=2) (f:=api_Span.cells) (t:=42) (len:=1) (fun bG=>[(0,pb cb0),(1,iv p1),(3,.func (.func 54) #[pb cb0] #[]),(6,pb b4),(9,sv a6 a3 a7),(44,sv a6 a3 a7),(46,sb bG 1)]) #[(0,.agg #[iv a0.1.Lo,iv a0.1.Hi])] #[iv a0.1.Lo,iv a0.1.Hi] ([(api_Span.mk a0.1.Lo a0.1.Hi)]) hF hS kr ⟨kr⟩ kr api_Span.cells_len rfl rfl kr (fun _=>⟨kr⟩) fun bG w a hF hS=>?_)
    replace h:=A4 h
    obtain ⟨b9,bX,h⟩:=h
    refine SK.wi (S4 (t:=42) (ty:=42) (bytes:=16) (l:=a3) (l':=([(api_Span.mk a0.1.Lo a0.1.Hi)])) (fun aX b0=>[(0,pb cb0),(1,iv p1),(3,.func (.func 54) #[pb cb0] #[]),(6,pb b4),(9,sv a6 a3 a7),(47,sv aX b9 b0)]) 4 hF hS rfl kr ⟨kr⟩ kr (hS.arr (i:=0) rfl) (fun _ _=>rfl) bX (fun _ _=>⟨kr⟩) fun aX b0 w a hF hS=>?_)
    refine rn 1 5 [(0,pb cb0),(1,iv p1),(3,.func (.func 54) #[pb cb0] #[]),(6,pb b4),(9,sv aX b9 b0)] hF fun a hF=>?_
    refine WI.fin rfl (Ac<|A1<|?_)
    rw [hk2] at h
    exact ⟨nk2,Nat.lt_succ_self _,a0.1.Lo,a0.1.Hi,a0.2.b,b9,ν557,b5,b6,aX,b0,hF.sub kr,hS.d1.d0.s3.s3,bL,aD,hext,hlow,h⟩
   ·replace h:=An h hc
    refine wpIn_skip (Ac<|A1<|?_)
    rw [hk2] at h
    exact ⟨nk2,Nat.lt_succ_self _,a1,a2,a4.2.b,a3,ν515,aP,aR,a6,a7,hF.sub kr,hS.s3.s1,aI,aD,hext,hlow,h⟩
  ·replace h:=An h hc
   refine wpIn_exit (Ad<|Ad<|Bb<|A1 ?_)
   exact ⟨a1,a2,aO,a5,ν500,aW,aZ,a8,a9,hF.sub kr,hS,aH,aC,hext,hlow,h⟩
 clear aC
 rintro a w ⟨bA,bB,b2,aJ,ν295,aV,aY,aK,aL,hF,hS,b7,b8,hext,hlow,h⟩
 replace hA3:=hA3.mono b8
 rw [C8] at h
 refine esr ?_
 refine rn 2 2 [(8,sv aK aJ aL)] hF fun a hF=>?_
 refine wfn rfl ?_
 refine wpIn_ret (Ak [.tmp 8] [sv aK aJ aL] hF rfl ⟨rfl,trivial⟩ ?_)
 obtain ⟨ν306,b1,hlow,hS,c3⟩:=hS.freeze (i:=2) (j:=0) rfl rfl (by decide) hlow
 replace hA3:=hA3.mono b1.1
 replace b7:=b7.mono b1.1
 replace b8:=Frz.le_trans b8 b1.1
 replace hext:=Frz.ext_trans hext b1
 have bU:=ArrM.of_arr c3
 have hr_:=Option.some.inj h
 subst hr_
 replace hS:=hS.d0
 exact .inl ⟨_,_,rfl,rfl,ν306,aK,aL,aV,aY,hext,hlow,rfl,bU,b7,hS⟩
theorem Mq (F:Nat) (p0:volume_reader) (res:Except (Value×volume_reader) (volume_thing×volume_reader)) (h:Cg F p0=some res) (μ:Frz) (w0 w1:World) (T_:List Res) (hlow:Ba w0 μ) {cb0:Nat} {ad1:Option Addr} {cap2:Nat} (hA3:ArrM μ 1 (fK .u8) ad1 cap2 p0.b) (hS:St w0 (fz w0 μ::blk cb0 98 #[sv ad1 p0.b cap2]::T_) w1):Mx Try.prog 41 #[pb cb0] w1 res (fun r_ e w=>∃(ν_:Frz) (eE:Value) (dO:Option Addr) (dS:Nat),μ.ext w0.heap.size ν_∧Ba w0 ν_∧e=(eE)∧volume_thing.R ν_ eE r_.1∧(ArrM ν_ 1 (fK .u8) dO dS r_.2.b)∧St w0 (fz w0 ν_::blk cb0 98 #[sv dO r_.2.b dS]::T_) w) (fun e_ w=>∃(ν_:Frz) (dP:Option Addr) (dT:Nat),μ.ext w0.heap.size ν_∧Ba w0 ν_∧(ArrM ν_ 1 (fK .u8) dP dT e_.b)∧St w0 (fz w0 ν_::blk cb0 98 #[sv dP e_.b dT]::T_) w):=by
 rw [Cg] at h
 have hext:=Frz.ext_refl w0.heap.size μ
 refine Aq Try.func41 rfl 155 [(0,pb cb0)] rfl rfl kr fun a w hw hF=>?_
 replace hS:=hS.cast hw
 clear hw
 refine esr ?_
 refine rn 1 1 [(0,pb cb0)] hF fun a hF=>?_
 refine wfn rfl ?_
 have a1:=Frz.le_refl μ
 refine Ei (fun a w=>∃(dG:(List Int)) (ν600:Frz) (cZ:Option Addr) (d5:Nat),Fr 155 [] [] a∧St w0 (fz w0 ν600::blk cb0 98 #[sv cZ dG d5]::T_) w∧(ArrM ν600 1 (fK .u8) cZ d5 dG)∧(μ.le ν600)∧(μ.ext w0.heap.size ν600)∧(Ba w0 ν600)∧F4 dG=some res) ?_ ?_
 ·skip
  refine esr ?_
  refine rn 1 1 [(0,pb cb0),(9,pb cb0)] hF fun a hF=>?_
  replace h:=A4 h
  obtain ⟨k3,hQ,h⟩:=h
  refine Dv (fun eF=>[(0,pb cb0),(10,eF)]) hF kr ⟨kr⟩ (Aj F _ _ hQ μ w0 w _ hlow hA3 hS) (fun _=>⟨kr⟩) ?_ ?_
  ·rintro jF w he_ ⟨ν616,fA,g4,dN,hlow,gV,hS⟩
   replace h:=G3 h he_
   replace hext:=Frz.ext_trans hext dN
   replace hA3:=hA3.mono dN.1
   replace a1:=Frz.le_trans a1 dN.1
   refine A6<|A6<|B1 hF ?_
   have hr_:=Option.some.inj h
   subst hr_
   replace hS:=hS
   exact .inr ⟨_,rfl,rfl,ν616,fA,g4,hext,hlow,gV,hS⟩
  rintro cN eF w a he_ ⟨ν610,f9,g3,dM,hlow,rfl,a2,hS⟩ hF
  replace h:=G4 h he_
  replace hext:=Frz.ext_trans hext dM
  replace hA3:=hA3.mono dM.1
  replace a1:=Frz.le_trans a1 dM.1
  refine wfn rfl ?_
  refine wpIn_block ?_
  refine esr ?_
  refine rn 2 2 [(0,pb cb0),(10,iv cN.1),(11,.bool (cN.1==1))] hF fun a hF=>?_
  refine wfn rfl ?_
  refine As hF rfl (fun hc=>?_) (fun hc=>?_)
  ·replace h:=Ao h hc
   refine esr ?_
   refine SK.wi (Bs (t:=39) (fun a0=>[(0,pb cb0),(3,pb a0)]) #[.string ByteArray.empty,iv 0,iv 0,iv 0,iv 0,iv 0,iv 0,iv 0,iv 0,iv 0,.slice none 0 0] hF hS kr ⟨kr⟩ kr (fun _=>⟨kr⟩) fun a0 w a hF hS=>?_)
   refine wfn rfl ?_
   refine esr ?_
   refine rn 1 1 [(0,pb cb0),(3,pb a0),(13,pb cb0)] hF fun a hF=>?_
   replace h:=A4 h
   obtain ⟨k5,hR,h⟩:=h
   replace hS:=hS.s2.s2
   refine Dv (fun eG=>[(0,pb cb0),(3,pb a0),(14,eG)]) hF kr ⟨kr⟩ (H6 F _ _ hR ν610 w0 w _ hlow a2 hS) (fun _=>⟨kr⟩) ?_ ?_
   ·rintro jG w he_ ⟨ν631,fB,g5,dF,hlow,gW,hS⟩
    replace h:=G3 h he_
    replace hext:=Frz.ext_trans hext dF
    replace hA3:=hA3.mono dF.1
    replace a2:=a2.mono dF.1
    replace a1:=Frz.le_trans a1 dF.1
    refine A6<|Ai<|A6<|B1 hF ?_
    have hr_:=Option.some.inj h
    subst hr_
    replace hS:=hS.d2
    exact .inr ⟨_,rfl,rfl,ν631,fB,g5,hext,hlow,gW,hS⟩
   rintro aA eG w a he_ ⟨ν625,iF,iV,dE,hlow,rfl,a6,hS⟩ hF
   replace h:=G4 h he_
   replace hext:=Frz.ext_trans hext dE
   replace hA3:=hA3.mono dE.1
   replace a2:=a2.mono dE.1
   replace a1:=Frz.le_trans a1 dE.1
   refine rn 2 4 [(0,pb cb0),(3,pb a0),(14,.string aA.1),(16,pb a0)] hF fun a hF=>?_
   refine SK.wi (Ap (t:=9) [(0,pb cb0),(3,pb a0)] 2 0 (.string aA.1) #[.string aA.1,iv 0,iv 0,iv 0,iv 0,iv 0,iv 0,iv 0,iv 0,iv 0,.slice none 0 0] hF hS rfl kr ⟨kr⟩ kr kr kr kr ⟨kr⟩ fun w a hF hS=>?_)
   refine wfn rfl ?_
   refine esr ?_
   refine rn 1 1 [(0,pb cb0),(3,pb a0),(17,pb cb0)] hF fun a hF=>?_
   replace h:=A4 h
   obtain ⟨k6,hT,h⟩:=h
   refine Dv (fun eH=>[(0,pb cb0),(3,pb a0),(18,eH)]) hF kr ⟨kr⟩ (Db F _ _ hT ν625 w0 w _ hlow a6 hS) (fun _=>⟨kr⟩) ?_ ?_
   ·rintro jH w he_ ⟨ν645,fC,g6,cV,hlow,gX,hS⟩
    replace h:=G3 h he_
    replace hext:=Frz.ext_trans hext cV
    replace hA3:=hA3.mono cV.1
    replace a2:=a2.mono cV.1
    replace a6:=a6.mono cV.1
    replace a1:=Frz.le_trans a1 cV.1
    refine A6<|Ai<|A6<|B1 hF ?_
    have hr_:=Option.some.inj h
    subst hr_
    replace hS:=hS.d2
    exact .inr ⟨_,rfl,rfl,ν645,fC,g6,hext,hlow,gX,hS⟩
   rintro a9 eH w a he_ ⟨ν639,iG,iW,cU,hlow,rfl,a7,hS⟩ hF
   replace h:=G4 h he_
   replace hext:=Frz.ext_trans hext cU
   replace hA3:=hA3.mono cU.1
   replace a2:=a2.mono cU.1
   replace a6:=a6.mono cU.1
   replace a1:=Frz.le_trans a1 cU.1
   refine rn 1 3 [(0,pb cb0),(3,pb a0),(18,iv a9.1),(19,pb cb0)] hF fun a hF=>?_
   replace h:=A4 h
   obtain ⟨k7,hU,h⟩:=h
   refine Dv (fun eI=>[(0,pb cb0),(3,pb a0),(18,iv a9.1),(20,eI)]) hF kr ⟨kr⟩ (Db F _ _ hU ν639 w0 w _ hlow a7 hS) (fun _=>⟨kr⟩) ?_ ?_
   ·rintro jI w he_ ⟨ν659,fD,g7,cK,hlow,gY,hS⟩
    replace h:=G3 h he_
    replace hext:=Frz.ext_trans hext cK
    replace hA3:=hA3.mono cK.1
    replace a2:=a2.mono cK.1
    replace a6:=a6.mono cK.1
    replace a7:=a7.mono cK.1
    replace a1:=Frz.le_trans a1 cK.1
    refine A6<|Ai<|A6<|B1 hF ?_
    have hr_:=Option.some.inj h
    subst hr_
    replace hS:=hS.d2
    exact .inr ⟨_,rfl,rfl,ν659,fD,g7,hext,hlow,gY,hS⟩
   rintro aB eI w a he_ ⟨ν653,iH,iX,cJ,hlow,rfl,a8,hS⟩ hF
   replace h:=G4 h he_
   replace hext:=Frz.ext_trans hext cJ
   replace hA3:=hA3.mono cJ.1
   replace a2:=a2.mono cJ.1
   replace a6:=a6.mono cJ.1
   replace a7:=a7.mono cJ.1
   replace a1:=Frz.le_trans a1 cJ.1
   refine rn 2 6 [(0,pb cb0),(3,pb a0),(18,iv a9.1),(20,iv aB.1),(22,.pointer (some ⟨a0,1,none⟩))] hF fun a hF=>?_
   refine SK.wi (Ap (t:=3) [(0,pb cb0),(3,pb a0),(20,iv aB.1)] 2 1 (iv a9.1) #[.string aA.1,iv a9.1,iv 0,iv 0,iv 0,iv 0,iv 0,iv 0,iv 0,iv 0,.slice none 0 0] hF hS rfl kr ⟨kr⟩ kr kr kr kr ⟨kr⟩ fun w a hF hS=>?_)
   refine rn 2 9 [(0,pb cb0),(3,pb a0),(20,iv aB.1),(24,.pointer (some ⟨a0,2,none⟩))] hF fun a hF=>?_
   refine SK.wi (Ap (t:=3) [(0,pb cb0),(3,pb a0)] 2 2 (iv aB.1) #[.string aA.1,iv a9.1,iv aB.1,iv 0,iv 0,iv 0,iv 0,iv 0,iv 0,iv 0,.slice none 0 0] hF hS rfl kr ⟨kr⟩ kr kr kr kr ⟨kr⟩ fun w a hF hS=>?_)
   refine wfn rfl ?_
   have aC:=Frz.le_refl ν653
   refine Ei (fun a w=>∃(aN:Int) (aI:Int) (a4:Int) (aO:Int) (aP:Int) (aU:Int) (aV:Int) (dH:(List Int)) (ν763:Frz) (d1:Option Addr) (d6:Nat),Fr 155 [] [(0,pb cb0),(3,pb a0)] a∧St w0 (fz w0 ν763::blk cb0 98 #[sv d1 dH d6]::blk a0 39 #[.string aA.1,iv a9.1,iv aB.1,iv aN,iv aI,iv a4,iv aO,iv aP,iv aU,iv aV,.slice none 0 0]::T_) w∧(ArrM ν763 1 (fK .u8) d1 d6 dH)∧(ν653.le ν763)∧(μ.ext w0.heap.size ν763)∧(Ba w0 ν763)∧Dy F aA a9 aB aN aI a4 aO aP aU aV dH=some res) ?_ ?_
   ·skip
    refine esr ?_
    refine rn 12 12 [(0,pb cb0),(3,pb a0),(26,.pointer (some ⟨a0,3,none⟩)),(28,.pointer (some ⟨a0,4,none⟩)),(30,.pointer (some ⟨a0,5,none⟩)),(32,.pointer (some ⟨a0,6,none⟩)),(34,.pointer (some ⟨a0,7,none⟩)),(35,.pointer (some ⟨a0,8,none⟩)),(36,.pointer (some ⟨a0,9,none⟩))] hF fun a hF=>?_
    refine SK.wi (G0 (e:=117) (sz:=1) (f:=fV) (t:=118) (len:=7) (fun a3=>[(0,pb cb0),(3,pb a0),(37,sb a3 7)]) #[(0,.pointer (some ⟨a0,3,none⟩)),(1,.pointer (some ⟨a0,4,none⟩)),(2,.pointer (some ⟨a0,5,none⟩)),(3,.pointer (some ⟨a0,6,none⟩)),(4,.pointer (some ⟨a0,7,none⟩)),(5,.pointer (some ⟨a0,8,none⟩)),(6,.pointer (some ⟨a0,9,none⟩))] #[.pointer (some ⟨a0,3,none⟩),.pointer (some ⟨a0,4,none⟩),.pointer (some ⟨a0,5,none⟩),.pointer (some ⟨a0,6,none⟩),.pointer (some ⟨a0,7,none⟩),.pointer (some ⟨a0,8,none⟩),.pointer (some ⟨a0,9,none⟩)] ([(.pointer (some ⟨a0,3,none⟩)),(.pointer (some ⟨a0,4,none⟩)),(.pointer (some ⟨a0,5,none⟩)),(.pointer (some ⟨a0,6,none⟩)),(.pointer (some ⟨a0,7,none⟩)),(.pointer (some ⟨a0,8,none⟩)),(.pointer (some ⟨a0,9,none⟩))]:List Value) hF hS kr ⟨kr⟩ kr Nt rfl rfl kr (fun _=>⟨kr⟩) fun a3 w a hF hS=>?_)
    refine rn 2 15 [(0,pb cb0),(3,pb a0),(37,sb a3 7),(38,iv ((7:Nat):Int)),(39,iv 0)] hF fun a hF=>?_
    refine wfn rfl ?_
    refine wpIn_block ?_
    refine A0z 8 ?_
    refine Mf ?_
    refine esr ?_
    refine rn 1 1 [(0,pb cb0),(3,pb a0),(37,sb a3 7),(38,iv ((7:Nat):Int)),(39,iv 0),(40,.bool true)] hF fun a hF=>?_
    refine wfn rfl ?_
    refine B0 ?_
    refine wpIn_cond_true (hF.get rfl) ?_
    refine wpIn_skip (A1 ?_)
    refine B0 ?_
    refine wpIn_block ?_
    refine esr ?_
    refine rno 3 [.run [] (Instr.indexAt 118 (sb a3 7) (iv 0)) (.pointer (some (Ag (some ⟨a3,0,none⟩) 0 1))),.run [] (Instr.loadAt 117 (.pointer (some (Ag (some ⟨a3,0,none⟩) 0 1)))) (.pointer (some ⟨a0,3,none⟩))] 3 [(0,pb cb0),(3,pb a0),(5,.pointer (some ⟨a0,3,none⟩)),(37,sb a3 7),(38,iv ((7:Nat):Int)),(39,iv 0)] hF (A0 (Bc (i:=0) (hS.arr (i:=0) rfl) kr (u:=.pointer (some ⟨a0,3,none⟩)) (fun _=>rfl)) (A0 (Ey (i:=0) 0 Nt (fun _ hd=>((hS.at_ hd).arr (i:=0) rfl)) kr (fun _=>rfl) rfl) Aa)) fun a hF=>?_
    refine wfn rfl ?_
    refine WI.region ?_
    refine rn 2 2 [(0,pb cb0),(3,pb a0),(37,sb a3 7),(38,iv ((7:Nat):Int)),(39,iv 0),(43,.pointer (some ⟨a0,3,none⟩)),(44,pb cb0)] hF fun a hF=>?_
    replace h:=A4 h
    obtain ⟨kB,hY,h⟩:=h
    replace hS:=hS.s2.s2
    refine Dv (fun eK=>[(0,pb cb0),(3,pb a0),(37,sb a3 7),(38,iv ((7:Nat):Int)),(39,iv 0),(43,.pointer (some ⟨a0,3,none⟩)),(45,eK)]) hF kr ⟨kr⟩ (Aj F _ _ hY ν653 w0 w _ hlow a8 hS) (fun _=>⟨kr⟩) ?_ ?_
    ·rintro jK w he_ ⟨ν966,fF,g9,c8,hlow,h3,hS⟩
     replace h:=G3 h he_
     replace hext:=Frz.ext_trans hext c8
     replace hA3:=hA3.mono c8.1
     replace a2:=a2.mono c8.1
     replace a6:=a6.mono c8.1
     replace a7:=a7.mono c8.1
     replace a8:=a8.mono c8.1
     replace a1:=Frz.le_trans a1 c8.1
     replace aC:=Frz.le_trans aC c8.1
     refine Ai<|A6<|A6<|Ai<|A6<|Ai<|A6<|B1 hF ?_
     have hr_:=Option.some.inj h
     subst hr_
     replace hS:=hS.d3.d2
     exact .inr ⟨_,rfl,rfl,ν966,fF,g9,hext,hlow,h3,hS⟩
    rintro bQ eK w a he_ ⟨ν960,iI,iY,c7,hlow,rfl,aG,hS⟩ hF
    replace h:=G4 h he_
    replace hext:=Frz.ext_trans hext c7
    replace hA3:=hA3.mono c7.1
    replace a2:=a2.mono c7.1
    replace a6:=a6.mono c7.1
    replace a7:=a7.mono c7.1
    replace a8:=a8.mono c7.1
    replace a1:=Frz.le_trans a1 c7.1
    replace aC:=Frz.le_trans aC c7.1
    refine rn 1 4 [(0,pb cb0),(3,pb a0),(37,sb a3 7),(38,iv ((7:Nat):Int)),(39,iv 0),(45,iv bQ.1),(46,.pointer (some ⟨a0,3,none⟩))] hF fun a hF=>?_
    refine SK.wi (Ap (t:=3) [(0,pb cb0),(3,pb a0),(37,sb a3 7),(38,iv ((7:Nat):Int)),(39,iv 0)] 3 3 (iv bQ.1) #[.string aA.1,iv a9.1,iv aB.1,iv bQ.1,iv 0,iv 0,iv 0,iv 0,iv 0,iv 0,.slice none 0 0] hF hS rfl kr ⟨kr⟩ kr kr kr kr ⟨kr⟩ fun w a hF hS=>?_)
    refine WI.fin rfl (Ac<|A1<|?_)
    refine WI.region ?_
    refine rno 2 [.run [] (binOp .add 3 (iv 0) (iv 1)) (iv 1)] 2 [(0,pb cb0),(3,pb a0),(37,sb a3 7),(38,iv ((7:Nat):Int)),(39,iv 1)] hF (A0 (Ca kr) Aa) fun a hF=>?_
    refine wfn rfl ?_
    refine Mf ?_
    refine esr ?_
    refine rn 1 1 [(0,pb cb0),(3,pb a0),(37,sb a3 7),(38,iv ((7:Nat):Int)),(39,iv 1),(40,.bool true)] hF fun a hF=>?_
    refine wfn rfl ?_
    refine B0 ?_
    refine wpIn_cond_true (hF.get rfl) ?_
    refine wpIn_skip (A1 ?_)
    refine B0 ?_
    refine wpIn_block ?_
    refine esr ?_
    refine rno 3 [.run [] (Instr.indexAt 118 (sb a3 7) (iv 1)) (.pointer (some (Ag (some ⟨a3,0,none⟩) 1 1))),.run [] (Instr.loadAt 117 (.pointer (some (Ag (some ⟨a3,0,none⟩) 1 1)))) (.pointer (some ⟨a0,4,none⟩))] 3 [(0,pb cb0),(3,pb a0),(5,.pointer (some ⟨a0,4,none⟩)),(37,sb a3 7),(38,iv ((7:Nat):Int)),(39,iv 1)] hF (A0 (Bc (i:=1) (hS.arr (i:=2) rfl) kr (u:=.pointer (some ⟨a0,4,none⟩)) (fun _=>rfl)) (A0 (Ey (i:=1) 0 Nt (fun _ hd=>((hS.at_ hd).arr (i:=2) rfl)) kr (fun _=>rfl) rfl) Aa)) fun a hF=>?_
    refine wfn rfl ?_
    refine WI.region ?_
    refine rn 2 2 [(0,pb cb0),(3,pb a0),(37,sb a3 7),(38,iv ((7:Nat):Int)),(39,iv 1),(43,.pointer (some ⟨a0,4,none⟩)),(44,pb cb0)] hF fun a hF=>?_
    replace h:=A4 h
    obtain ⟨kC,hZ,h⟩:=h
    refine Dv (fun eL=>[(0,pb cb0),(3,pb a0),(37,sb a3 7),(38,iv ((7:Nat):Int)),(39,iv 1),(43,.pointer (some ⟨a0,4,none⟩)),(45,eL)]) hF kr ⟨kr⟩ (Aj F _ _ hZ ν960 w0 w _ hlow aG hS) (fun _=>⟨kr⟩) ?_ ?_
    ·rintro jL w he_ ⟨ν980,fG,gA,c0,hlow,h4,hS⟩
     replace h:=G3 h he_
     replace hext:=Frz.ext_trans hext c0
     replace hA3:=hA3.mono c0.1
     replace a2:=a2.mono c0.1
     replace a6:=a6.mono c0.1
     replace a7:=a7.mono c0.1
     replace a8:=a8.mono c0.1
     replace aG:=aG.mono c0.1
     replace a1:=Frz.le_trans a1 c0.1
     replace aC:=Frz.le_trans aC c0.1
     refine Ai<|A6<|A6<|Ai<|A6<|Ai<|A6<|B1 hF ?_
     have hr_:=Option.some.inj h
     subst hr_
     replace hS:=hS.d3.d2
     exact .inr ⟨_,rfl,rfl,ν980,fG,gA,hext,hlow,h4,hS⟩
    rintro c2 eL w a he_ ⟨ν974,iJ,iZ,bZ,hlow,rfl,aS,hS⟩ hF
    replace h:=G4 h he_
    replace hext:=Frz.ext_trans hext bZ
    replace hA3:=hA3.mono bZ.1
    replace a2:=a2.mono bZ.1
    replace a6:=a6.mono bZ.1
    replace a7:=a7.mono bZ.1
    replace a8:=a8.mono bZ.1
    replace aG:=aG.mono bZ.1
    replace a1:=Frz.le_trans a1 bZ.1
    replace aC:=Frz.le_trans aC bZ.1
    refine rn 1 4 [(0,pb cb0),(3,pb a0),(37,sb a3 7),(38,iv ((7:Nat):Int)),(39,iv 1),(45,iv c2.1),(46,.pointer (some ⟨a0,4,none⟩))] hF fun a hF=>?_
    refine SK.wi (Ap (t:=3) [(0,pb cb0),(3,pb a0),(37,sb a3 7),(38,iv ((7:Nat):Int)),(39,iv 1)] 3 4 (iv c2.1) #[.string aA.1,iv a9.1,iv aB.1,iv bQ.1,iv c2.1,iv 0,iv 0,iv 0,iv 0,iv 0,.slice none 0 0] hF hS rfl kr ⟨kr⟩ kr kr kr kr ⟨kr⟩ fun w a hF hS=>?_)
    refine WI.fin rfl (Ac<|A1<|?_)
    refine WI.region ?_
    refine rno 2 [.run [] (binOp .add 3 (iv 1) (iv 1)) (iv 2)] 2 [(0,pb cb0),(3,pb a0),(37,sb a3 7),(38,iv ((7:Nat):Int)),(39,iv 2)] hF (A0 (Ca kr) Aa) fun a hF=>?_
    refine wfn rfl ?_
    refine Mf ?_
    refine esr ?_
    refine rn 1 1 [(0,pb cb0),(3,pb a0),(37,sb a3 7),(38,iv ((7:Nat):Int)),(39,iv 2),(40,.bool true)] hF fun a hF=>?_
    refine wfn rfl ?_
    refine B0 ?_
    refine wpIn_cond_true (hF.get rfl) ?_
    refine wpIn_skip (A1 ?_)
    refine B0 ?_
    refine wpIn_block ?_
    refine esr ?_
    refine rno 3 [.run [] (Instr.indexAt 118 (sb a3 7) (iv 2)) (.pointer (some (Ag (some ⟨a3,0,none⟩) 2 1))),.run [] (Instr.loadAt 117 (.pointer (some (Ag (some ⟨a3,0,none⟩) 2 1)))) (.pointer (some ⟨a0,5,none⟩))] 3 [(0,pb cb0),(3,pb a0),(5,.pointer (some ⟨a0,5,none⟩)),(37,sb a3 7),(38,iv ((7:Nat):Int)),(39,iv 2)] hF (A0 (Bc (i:=2) (hS.arr (i:=2) rfl) kr (u:=.pointer (some ⟨a0,5,none⟩)) (fun _=>rfl)) (A0 (Ey (i:=2) 0 Nt (fun _ hd=>((hS.at_ hd).arr (i:=2) rfl)) kr (fun _=>rfl) rfl) Aa)) fun a hF=>?_
    refine wfn rfl ?_
    refine WI.region ?_
    refine rn 2 2 [(0,pb cb0),(3,pb a0),(37,sb a3 7),(38,iv ((7:Nat):Int)),(39,iv 2),(43,.pointer (some ⟨a0,5,none⟩)),(44,pb cb0)] hF fun a hF=>?_
    replace h:=A4 h
    obtain ⟨kD,i0,h⟩:=h
    refine Dv (fun eM=>[(0,pb cb0),(3,pb a0),(37,sb a3 7),(38,iv ((7:Nat):Int)),(39,iv 2),(43,.pointer (some ⟨a0,5,none⟩)),(45,eM)]) hF kr ⟨kr⟩ (Aj F _ _ i0 ν974 w0 w _ hlow aS hS) (fun _=>⟨kr⟩) ?_ ?_
    ·rintro jM w he_ ⟨ν994,fH,gB,bO,hlow,h5,hS⟩
     replace h:=G3 h he_
     replace hext:=Frz.ext_trans hext bO
     replace hA3:=hA3.mono bO.1
     replace a2:=a2.mono bO.1
     replace a6:=a6.mono bO.1
     replace a7:=a7.mono bO.1
     replace a8:=a8.mono bO.1
     replace aG:=aG.mono bO.1
     replace aS:=aS.mono bO.1
     replace a1:=Frz.le_trans a1 bO.1
     replace aC:=Frz.le_trans aC bO.1
     refine Ai<|A6<|A6<|Ai<|A6<|Ai<|A6<|B1 hF ?_
     have hr_:=Option.some.inj h
     subst hr_
     replace hS:=hS.d3.d2
     exact .inr ⟨_,rfl,rfl,ν994,fH,gB,hext,hlow,h5,hS⟩
    rintro cA eM w a he_ ⟨ν988,iK,j0,bN,hlow,rfl,aX,hS⟩ hF
    replace h:=G4 h he_
    replace hext:=Frz.ext_trans hext bN
    replace hA3:=hA3.mono bN.1
    replace a2:=a2.mono bN.1
    replace a6:=a6.mono bN.1
    replace a7:=a7.mono bN.1
    replace a8:=a8.mono bN.1
    replace aG:=aG.mono bN.1
    replace aS:=aS.mono bN.1
    replace a1:=Frz.le_trans a1 bN.1
    replace aC:=Frz.le_trans aC bN.1
    refine rn 1 4 [(0,pb cb0),(3,pb a0),(37,sb a3 7),(38,iv ((7:Nat):Int)),(39,iv 2),(45,iv cA.1),(46,.pointer (some ⟨a0,5,none⟩))] hF fun a hF=>?_
    refine SK.wi (Ap (t:=3) [(0,pb cb0),(3,pb a0),(37,sb a3 7),(38,iv ((7:Nat):Int)),(39,iv 2)] 3 5 (iv cA.1) #[.string aA.1,iv a9.1,iv aB.1,iv bQ.1,iv c2.1,iv cA.1,iv 0,iv 0,iv 0,iv 0,.slice none 0 0] hF hS rfl kr ⟨kr⟩ kr kr kr kr ⟨kr⟩ fun w a hF hS=>?_)
    refine WI.fin rfl (Ac<|A1<|?_)
    refine WI.region ?_
    refine rno 2 [.run [] (binOp .add 3 (iv 2) (iv 1)) (iv 3)] 2 [(0,pb cb0),(3,pb a0),(37,sb a3 7),(38,iv ((7:Nat):Int)),(39,iv 3)] hF (A0 (Ca kr) Aa) fun a hF=>?_
    refine wfn rfl ?_
    refine Mf ?_
    refine esr ?_
    refine rn 1 1 [(0,pb cb0),(3,pb a0),(37,sb a3 7),(38,iv ((7:Nat):Int)),(39,iv 3),(40,.bool true)] hF fun a hF=>?_
    refine wfn rfl ?_
    refine B0 ?_
    refine wpIn_cond_true (hF.get rfl) ?_
    refine wpIn_skip (A1 ?_)
    refine B0 ?_
    refine wpIn_block ?_
    refine esr ?_
    refine rno 3 [.run [] (Instr.indexAt 118 (sb a3 7) (iv 3)) (.pointer (some (Ag (some ⟨a3,0,none⟩) 3 1))),.run [] (Instr.loadAt 117 (.pointer (some (Ag (some ⟨a3,0,none⟩) 3 1)))) (.pointer (some ⟨a0,6,none⟩))] 3 [(0,pb cb0),(3,pb a0),(5,.pointer (some ⟨a0,6,none⟩)),(37,sb a3 7),(38,iv ((7:Nat):Int)),(39,iv 3)] hF (A0 (Bc (i:=3) (hS.arr (i:=2) rfl) kr (u:=.pointer (some ⟨a0,6,none⟩)) (fun _=>rfl)) (A0 (Ey (i:=3) 0 Nt (fun _ hd=>((hS.at_ hd).arr (i:=2) rfl)) kr (fun _=>rfl) rfl) Aa)) fun a hF=>?_
    refine wfn rfl ?_
    refine WI.region ?_
    refine rn 2 2 [(0,pb cb0),(3,pb a0),(37,sb a3 7),(38,iv ((7:Nat):Int)),(39,iv 3),(43,.pointer (some ⟨a0,6,none⟩)),(44,pb cb0)] hF fun a hF=>?_
    replace h:=A4 h
    obtain ⟨kE,i1,h⟩:=h
    refine Dv (fun e0=>[(0,pb cb0),(3,pb a0),(37,sb a3 7),(38,iv ((7:Nat):Int)),(39,iv 3),(43,.pointer (some ⟨a0,6,none⟩)),(45,e0)]) hF kr ⟨kr⟩ (Aj F _ _ i1 ν988 w0 w _ hlow aX hS) (fun _=>⟨kr⟩) ?_ ?_
    ·rintro j1 w he_ ⟨ν1008,eR,fI,bE,hlow,gC,hS⟩
     replace h:=G3 h he_
     replace hext:=Frz.ext_trans hext bE
     replace hA3:=hA3.mono bE.1
     replace a2:=a2.mono bE.1
     replace a6:=a6.mono bE.1
     replace a7:=a7.mono bE.1
     replace a8:=a8.mono bE.1
     replace aG:=aG.mono bE.1
     replace aS:=aS.mono bE.1
     replace aX:=aX.mono bE.1
     replace a1:=Frz.le_trans a1 bE.1
     replace aC:=Frz.le_trans aC bE.1
     refine Ai<|A6<|A6<|Ai<|A6<|Ai<|A6<|B1 hF ?_
     have hr_:=Option.some.inj h
     subst hr_
     replace hS:=hS.d3.d2
     exact .inr ⟨_,rfl,rfl,ν1008,eR,fI,hext,hlow,gC,hS⟩
    rintro cD e0 w a he_ ⟨ν1002,i5,iL,bD,hlow,rfl,b3,hS⟩ hF
    replace h:=G4 h he_
    replace hext:=Frz.ext_trans hext bD
    replace hA3:=hA3.mono bD.1
    replace a2:=a2.mono bD.1
    replace a6:=a6.mono bD.1
    replace a7:=a7.mono bD.1
    replace a8:=a8.mono bD.1
    replace aG:=aG.mono bD.1
    replace aS:=aS.mono bD.1
    replace aX:=aX.mono bD.1
    replace a1:=Frz.le_trans a1 bD.1
    replace aC:=Frz.le_trans aC bD.1
    refine rn 1 4 [(0,pb cb0),(3,pb a0),(37,sb a3 7),(38,iv ((7:Nat):Int)),(39,iv 3),(45,iv cD.1),(46,.pointer (some ⟨a0,6,none⟩))] hF fun a hF=>?_
    refine SK.wi (Ap (t:=3) [(0,pb cb0),(3,pb a0),(37,sb a3 7),(38,iv ((7:Nat):Int)),(39,iv 3)] 3 6 (iv cD.1) #[.string aA.1,iv a9.1,iv aB.1,iv bQ.1,iv c2.1,iv cA.1,iv cD.1,iv 0,iv 0,iv 0,.slice none 0 0] hF hS rfl kr ⟨kr⟩ kr kr kr kr ⟨kr⟩ fun w a hF hS=>?_)
    refine WI.fin rfl (Ac<|A1<|?_)
    refine WI.region ?_
    refine rno 2 [.run [] (binOp .add 3 (iv 3) (iv 1)) (iv 4)] 2 [(0,pb cb0),(3,pb a0),(37,sb a3 7),(38,iv ((7:Nat):Int)),(39,iv 4)] hF (A0 (Ca kr) Aa) fun a hF=>?_
    refine wfn rfl ?_
    refine Mf ?_
    refine esr ?_
    refine rn 1 1 [(0,pb cb0),(3,pb a0),(37,sb a3 7),(38,iv ((7:Nat):Int)),(39,iv 4),(40,.bool true)] hF fun a hF=>?_
    refine wfn rfl ?_
    refine B0 ?_
    refine wpIn_cond_true (hF.get rfl) ?_
    refine wpIn_skip (A1 ?_)
    refine B0 ?_
    refine wpIn_block ?_
    refine esr ?_
    refine rno 3 [.run [] (Instr.indexAt 118 (sb a3 7) (iv 4)) (.pointer (some (Ag (some ⟨a3,0,none⟩) 4 1))),.run [] (Instr.loadAt 117 (.pointer (some (Ag (some ⟨a3,0,none⟩) 4 1)))) (.pointer (some ⟨a0,7,none⟩))] 3 [(0,pb cb0),(3,pb a0),(5,.pointer (some ⟨a0,7,none⟩)),(37,sb a3 7),(38,iv ((7:Nat):Int)),(39,iv 4)] hF (A0 (Bc (i:=4) (hS.arr (i:=2) rfl) kr (u:=.pointer (some ⟨a0,7,none⟩)) (fun _=>rfl)) (A0 (Ey (i:=4) 0 Nt (fun _ hd=>((hS.at_ hd).arr (i:=2) rfl)) kr (fun _=>rfl) rfl) Aa)) fun a hF=>?_
    refine wfn rfl ?_
    refine WI.region ?_
    refine rn 2 2 [(0,pb cb0),(3,pb a0),(37,sb a3 7),(38,iv ((7:Nat):Int)),(39,iv 4),(43,.pointer (some ⟨a0,7,none⟩)),(44,pb cb0)] hF fun a hF=>?_
    replace h:=A4 h
    obtain ⟨jO,hB,h⟩:=h
    refine Dv (fun e1=>[(0,pb cb0),(3,pb a0),(37,sb a3 7),(38,iv ((7:Nat):Int)),(39,iv 4),(43,.pointer (some ⟨a0,7,none⟩)),(45,e1)]) hF kr ⟨kr⟩ (Aj F _ _ hB ν1002 w0 w _ hlow b3 hS) (fun _=>⟨kr⟩) ?_ ?_
    ·rintro j2 w he_ ⟨ν1022,eS,fJ,bB,hlow,gD,hS⟩
     replace h:=G3 h he_
     replace hext:=Frz.ext_trans hext bB
     replace hA3:=hA3.mono bB.1
     replace a2:=a2.mono bB.1
     replace a6:=a6.mono bB.1
     replace a7:=a7.mono bB.1
     replace a8:=a8.mono bB.1
     replace aG:=aG.mono bB.1
     replace aS:=aS.mono bB.1
     replace aX:=aX.mono bB.1
     replace b3:=b3.mono bB.1
     replace a1:=Frz.le_trans a1 bB.1
     replace aC:=Frz.le_trans aC bB.1
     refine Ai<|A6<|A6<|Ai<|A6<|Ai<|A6<|B1 hF ?_
     have hr_:=Option.some.inj h
     subst hr_
     replace hS:=hS.d3.d2
     exact .inr ⟨_,rfl,rfl,ν1022,eS,fJ,hext,hlow,gD,hS⟩
    rintro cM e1 w a he_ ⟨ν1016,i6,iM,bA,hlow,rfl,bT,hS⟩ hF
    replace h:=G4 h he_
    replace hext:=Frz.ext_trans hext bA
    replace hA3:=hA3.mono bA.1
    replace a2:=a2.mono bA.1
    replace a6:=a6.mono bA.1
    replace a7:=a7.mono bA.1
    replace a8:=a8.mono bA.1
    replace aG:=aG.mono bA.1
    replace aS:=aS.mono bA.1
    replace aX:=aX.mono bA.1
    replace b3:=b3.mono bA.1
    replace a1:=Frz.le_trans a1 bA.1
    replace aC:=Frz.le_trans aC bA.1
    refine rn 1 4 [(0,pb cb0),(3,pb a0),(37,sb a3 7),(38,iv ((7:Nat):Int)),(39,iv 4),(45,iv cM.1),(46,.pointer (some ⟨a0,7,none⟩))] hF fun a hF=>?_
    refine SK.wi (Ap (t:=3) [(0,pb cb0),(3,pb a0),(37,sb a3 7),(38,iv ((7:Nat):Int)),(39,iv 4)] 3 7 (iv cM.1) #[.string aA.1,iv a9.1,iv aB.1,iv bQ.1,iv c2.1,iv cA.1,iv cD.1,iv cM.1,iv 0,iv 0,.slice none 0 0] hF hS rfl kr ⟨kr⟩ kr kr kr kr ⟨kr⟩ fun w a hF hS=>?_)
    refine WI.fin rfl (Ac<|A1<|?_)
    refine WI.region ?_
    refine rno 2 [.run [] (binOp .add 3 (iv 4) (iv 1)) (iv 5)] 2 [(0,pb cb0),(3,pb a0),(37,sb a3 7),(38,iv ((7:Nat):Int)),(39,iv 5)] hF (A0 (Ca kr) Aa) fun a hF=>?_
    refine wfn rfl ?_
    refine Mf ?_
    refine esr ?_
    refine rn 1 1 [(0,pb cb0),(3,pb a0),(37,sb a3 7),(38,iv ((7:Nat):Int)),(39,iv 5),(40,.bool true)] hF fun a hF=>?_
    refine wfn rfl ?_
    refine B0 ?_
    refine wpIn_cond_true (hF.get rfl) ?_
    refine wpIn_skip (A1 ?_)
    refine B0 ?_
    refine wpIn_block ?_
    refine esr ?_
    refine rno 3 [.run [] (Instr.indexAt 118 (sb a3 7) (iv 5)) (.pointer (some (Ag (some ⟨a3,0,none⟩) 5 1))),.run [] (Instr.loadAt 117 (.pointer (some (Ag (some ⟨a3,0,none⟩) 5 1)))) (.pointer (some ⟨a0,8,none⟩))] 3 [(0,pb cb0),(3,pb a0),(5,.pointer (some ⟨a0,8,none⟩)),(37,sb a3 7),(38,iv ((7:Nat):Int)),(39,iv 5)] hF (A0 (Bc (i:=5) (hS.arr (i:=2) rfl) kr (u:=.pointer (some ⟨a0,8,none⟩)) (fun _=>rfl)) (A0 (Ey (i:=5) 0 Nt (fun _ hd=>((hS.at_ hd).arr (i:=2) rfl)) kr (fun _=>rfl) rfl) Aa)) fun a hF=>?_
    refine wfn rfl ?_
    refine WI.region ?_
    refine rn 2 2 [(0,pb cb0),(3,pb a0),(37,sb a3 7),(38,iv ((7:Nat):Int)),(39,iv 5),(43,.pointer (some ⟨a0,8,none⟩)),(44,pb cb0)] hF fun a hF=>?_
    replace h:=A4 h
    obtain ⟨jP,hC,h⟩:=h
    refine Dv (fun e2=>[(0,pb cb0),(3,pb a0),(37,sb a3 7),(38,iv ((7:Nat):Int)),(39,iv 5),(43,.pointer (some ⟨a0,8,none⟩)),(45,e2)]) hF kr ⟨kr⟩ (Aj F _ _ hC ν1016 w0 w _ hlow bT hS) (fun _=>⟨kr⟩) ?_ ?_
    ·rintro j3 w he_ ⟨ν1036,eT,fL,b6,hlow,gE,hS⟩
     replace h:=G3 h he_
     replace hext:=Frz.ext_trans hext b6
     replace hA3:=hA3.mono b6.1
     replace a2:=a2.mono b6.1
     replace a6:=a6.mono b6.1
     replace a7:=a7.mono b6.1
     replace a8:=a8.mono b6.1
     replace aG:=aG.mono b6.1
     replace aS:=aS.mono b6.1
     replace aX:=aX.mono b6.1
     replace b3:=b3.mono b6.1
     replace bT:=bT.mono b6.1
     replace a1:=Frz.le_trans a1 b6.1
     replace aC:=Frz.le_trans aC b6.1
     refine Ai<|A6<|A6<|Ai<|A6<|Ai<|A6<|B1 hF ?_
     have hr_:=Option.some.inj h
     subst hr_
     replace hS:=hS.d3.d2
     exact .inr ⟨_,rfl,rfl,ν1036,eT,fL,hext,hlow,gE,hS⟩
    rintro cW e2 w a he_ ⟨ν1030,i7,iN,b5,hlow,rfl,cO,hS⟩ hF
    replace h:=G4 h he_
    replace hext:=Frz.ext_trans hext b5
    replace hA3:=hA3.mono b5.1
    replace a2:=a2.mono b5.1
    replace a6:=a6.mono b5.1
    replace a7:=a7.mono b5.1
    replace a8:=a8.mono b5.1
    replace aG:=aG.mono b5.1
    replace aS:=aS.mono b5.1
    replace aX:=aX.mono b5.1
    replace b3:=b3.mono b5.1
    replace bT:=bT.mono b5.1
    replace a1:=Frz.le_trans a1 b5.1
    replace aC:=Frz.le_trans aC b5.1
    refine rn 1 4 [(0,pb cb0),(3,pb a0),(37,sb a3 7),(38,iv ((7:Nat):Int)),(39,iv 5),(45,iv cW.1),(46,.pointer (some ⟨a0,8,none⟩))] hF fun a hF=>?_
    refine SK.wi (Ap (t:=3) [(0,pb cb0),(3,pb a0),(37,sb a3 7),(38,iv ((7:Nat):Int)),(39,iv 5)] 3 8 (iv cW.1) #[.string aA.1,iv a9.1,iv aB.1,iv bQ.1,iv c2.1,iv cA.1,iv cD.1,iv cM.1,iv cW.1,iv 0,.slice none 0 0] hF hS rfl kr ⟨kr⟩ kr kr kr kr ⟨kr⟩ fun w a hF hS=>?_)
    refine WI.fin rfl (Ac<|A1<|?_)
    refine WI.region ?_
    refine rno 2 [.run [] (binOp .add 3 (iv 5) (iv 1)) (iv 6)] 2 [(0,pb cb0),(3,pb a0),(37,sb a3 7),(38,iv ((7:Nat):Int)),(39,iv 6)] hF (A0 (Ca kr) Aa) fun a hF=>?_
    refine wfn rfl ?_
    refine Mf ?_
    refine esr ?_
    refine rn 1 1 [(0,pb cb0),(3,pb a0),(37,sb a3 7),(38,iv ((7:Nat):Int)),(39,iv 6),(40,.bool true)] hF fun a hF=>?_
    refine wfn rfl ?_
    refine B0 ?_
    refine wpIn_cond_true (hF.get rfl) ?_
    refine wpIn_skip (A1 ?_)
    refine B0 ?_
    refine wpIn_block ?_
    refine esr ?_
    refine rno 3 [.run [] (Instr.indexAt 118 (sb a3 7) (iv 6)) (.pointer (some (Ag (some ⟨a3,0,none⟩) 6 1))),.run [] (Instr.loadAt 117 (.pointer (some (Ag (some ⟨a3,0,none⟩) 6 1)))) (.pointer (some ⟨a0,9,none⟩))] 3 [(0,pb cb0),(3,pb a0),(5,.pointer (some ⟨a0,9,none⟩)),(37,sb a3 7),(38,iv ((7:Nat):Int)),(39,iv 6)] hF (A0 (Bc (i:=6) (hS.arr (i:=2) rfl) kr (u:=.pointer (some ⟨a0,9,none⟩)) (fun _=>rfl)) (A0 (Ey (i:=6) 0 Nt (fun _ hd=>((hS.at_ hd).arr (i:=2) rfl)) kr (fun _=>rfl) rfl) Aa)) fun a hF=>?_
    refine wfn rfl ?_
    refine WI.region ?_
    refine rn 2 2 [(0,pb cb0),(3,pb a0),(37,sb a3 7),(38,iv ((7:Nat):Int)),(39,iv 6),(43,.pointer (some ⟨a0,9,none⟩)),(44,pb cb0)] hF fun a hF=>?_
    replace h:=A4 h
    obtain ⟨jQ,hD,h⟩:=h
    refine Dv (fun e3=>[(0,pb cb0),(3,pb a0),(37,sb a3 7),(38,iv ((7:Nat):Int)),(39,iv 6),(43,.pointer (some ⟨a0,9,none⟩)),(45,e3)]) hF kr ⟨kr⟩ (Aj F _ _ hD ν1030 w0 w _ hlow cO hS) (fun _=>⟨kr⟩) ?_ ?_
    ·rintro j4 w he_ ⟨ν1050,eV,fO,b1,hlow,gG,hS⟩
     replace h:=G3 h he_
     replace hext:=Frz.ext_trans hext b1
     replace hA3:=hA3.mono b1.1
     replace a2:=a2.mono b1.1
     replace a6:=a6.mono b1.1
     replace a7:=a7.mono b1.1
     replace a8:=a8.mono b1.1
     replace aG:=aG.mono b1.1
     replace aS:=aS.mono b1.1
     replace aX:=aX.mono b1.1
     replace b3:=b3.mono b1.1
     replace bT:=bT.mono b1.1
     replace cO:=cO.mono b1.1
     replace a1:=Frz.le_trans a1 b1.1
     replace aC:=Frz.le_trans aC b1.1
     refine Ai<|A6<|A6<|Ai<|A6<|Ai<|A6<|B1 hF ?_
     have hr_:=Option.some.inj h
     subst hr_
     replace hS:=hS.d3.d2
     exact .inr ⟨_,rfl,rfl,ν1050,eV,fO,hext,hlow,gG,hS⟩
    rintro cX e3 w a he_ ⟨ν1044,eU,fM,b0,hlow,rfl,gF,hS⟩ hF
    replace h:=G4 h he_
    replace hext:=Frz.ext_trans hext b0
    replace hA3:=hA3.mono b0.1
    replace a2:=a2.mono b0.1
    replace a6:=a6.mono b0.1
    replace a7:=a7.mono b0.1
    replace a8:=a8.mono b0.1
    replace aG:=aG.mono b0.1
    replace aS:=aS.mono b0.1
    replace aX:=aX.mono b0.1
    replace b3:=b3.mono b0.1
    replace bT:=bT.mono b0.1
    replace cO:=cO.mono b0.1
    replace a1:=Frz.le_trans a1 b0.1
    replace aC:=Frz.le_trans aC b0.1
    refine rn 1 4 [(0,pb cb0),(3,pb a0),(37,sb a3 7),(38,iv ((7:Nat):Int)),(39,iv 6),(45,iv cX.1),(46,.pointer (some ⟨a0,9,none⟩))] hF fun a hF=>?_
    refine SK.wi (Ap (t:=3) [(0,pb cb0),(3,pb a0),(37,sb a3 7),(38,iv ((7:Nat):Int)),(39,iv 6)] 3 9 (iv cX.1) #[.string aA.1,iv a9.1,iv aB.1,iv bQ.1,iv c2.1,iv cA.1,iv cD.1,iv cM.1,iv cW.1,iv cX.1,.slice none 0 0] hF hS rfl kr ⟨kr⟩ kr kr kr kr ⟨kr⟩ fun w a hF hS=>?_)
    refine WI.fin rfl (Ac<|A1<|?_)
    refine WI.region ?_
    refine rno 2 [.run [] (binOp .add 3 (iv 6) (iv 1)) (iv 7)] 2 [(0,pb cb0),(3,pb a0),(37,sb a3 7),(38,iv ((7:Nat):Int)),(39,iv 7)] hF (A0 (Ca kr) Aa) fun a hF=>?_
    refine wfn rfl ?_
    refine Mf ?_
    refine esr ?_
    refine rn 1 1 [(0,pb cb0),(3,pb a0),(37,sb a3 7),(38,iv ((7:Nat):Int)),(39,iv 7),(40,.bool false)] hF fun a hF=>?_
    refine wfn rfl ?_
    refine B0 ?_
    refine wpIn_cond_false (hF.get rfl) ?_
    refine wpIn_exit (Ad<|Ad<|Bb<|A1 ?_)
    exact ⟨bQ.1,c2.1,cA.1,cD.1,cM.1,cW.1,cX.1,cX.2.b,ν1044,eU,fM,hF.sub kr,hS.d2,gF,aC,hext,hlow,h⟩
   clear aC
   rintro a w ⟨aN,aI,a4,aO,aP,aU,aV,dH,ν763,d1,d6,hF,hS,c4,b9,hext,hlow,h⟩
   replace hA3:=hA3.mono b9
   replace a2:=a2.mono b9
   replace a6:=a6.mono b9
   replace a7:=a7.mono b9
   replace a8:=a8.mono b9
   replace a1:=Frz.le_trans a1 b9
   rw [Dy] at h
   refine esr ?_
   replace h:=A4 h
   obtain ⟨eQ,hV,h⟩:=h
   refine rx 3 [.run [] (Instr.loadAt 36 (pb a0)) (.agg #[.string aA.1,iv a9.1,iv aB.1,iv aN,iv aI,iv a4,iv aO,iv aP]),.call [] 49 #[.agg #[.string aA.1,iv a9.1,iv aB.1,iv aN,iv aI,iv a4,iv aO,iv aP]] (iv eQ)] 3 [(0,pb cb0),(3,pb a0),(50,iv eQ)] hF (A0 (obN (us:=[.string aA.1,iv a9.1,iv aB.1,iv aN,iv aI,iv a4,iv aO,iv aP]) kr (fun _ hd=>((hS.later hd).blk (i:=2) rfl).cells rfl)) (A0 (show Ob.ok _ Ext _ _ from fun hk w2 hd=>Me F (api_Site.mk aA.1 a9.1 aB.1 aN aI a4 aO aP) _ ((fun _=>hV) hk) _ w2 (A7 w2)) Aa)) fun a w hF hx=>?_
   replace hS:=hS.later hx
   replace h:=A4 h
   obtain ⟨k8,hW,h⟩:=h
   refine Xw (fun i4=>[(0,pb cb0),(3,pb a0)]) hF kr ⟨kr⟩ (M9 F _ _ hW (Bp w) w (A7 w)) (fun _=>⟨kr⟩) ?_ ?_
   ·intro v_ w he_ hx
    replace hS:=hS.later hx
    replace h:=G3 h he_
    refine A6<|Ai<|A6<|B1 hF ?_
    have hr_:=Option.some.inj h
    subst hr_
    replace hS:=hS.d2
    exact .inr ⟨_,rfl,rfl,ν763,d1,d6,hext,hlow,c4,hS⟩
   rintro k9 i4 w a he_ ⟨rfl,hx⟩ hF
   replace h:=G4 h he_
   replace hS:=hS.later hx
   refine wfn rfl ?_
   refine esr ?_
   replace h:=A4 h
   obtain ⟨eO,h9,h⟩:=h
   replace h:=A4 h
   obtain ⟨eP,hA,h⟩:=h
   refine rno 12 [.run [] (Instr.loadAt 3 (.pointer (some ⟨a0,4,none⟩))) (iv aI),.run [] (binOp .mul 3 (iv 4) (iv aI)) (iv eO),.run [] (Instr.loadAt 3 (.pointer (some ⟨a0,5,none⟩))) (iv a4),.run [] (binOp .mul 3 (iv eO) (iv a4)) (iv eP)] 12 [(3,pb a0),(52,pb cb0),(60,iv eP),(61,.agg #[iv 1,iv 0,iv 0,iv 0,iv 0,iv 0,iv 0,iv 0,iv 0,iv 0,iv 0,iv 0,iv 0,iv 0]),(63,.func (.func 51) #[pb cb0] #[])] hF (A0 (ob1 kr (fun _ hd=>(hS.at_ hd).cell (i:=2) (j:=4) rfl rfl)) (A0 (K8 (fun _=>h9)) (A0 (ob1 kr (fun _ hd=>(hS.at_ hd).cell (i:=2) (j:=5) rfl rfl)) (A0 (K8 (fun _=>hA)) Aa)))) fun a hF=>?_
   replace h:=A4 h
   obtain ⟨kA,hX,h⟩:=h
   refine Dv (fun eJ=>[(3,pb a0),(64,eJ)]) hF kr ⟨kr⟩ (Kh F _ _ _ _ hX ν763 w0 w _ hlow c4 hS) (fun _=>⟨kr⟩) ?_ ?_
   ·rintro jJ w he_ ⟨ν794,fE,g8,bY,hlow,gZ,hS⟩
    replace h:=G3 h he_
    replace hext:=Frz.ext_trans hext bY
    replace hA3:=hA3.mono bY.1
    replace a2:=a2.mono bY.1
    replace a6:=a6.mono bY.1
    replace a7:=a7.mono bY.1
    replace a8:=a8.mono bY.1
    replace c4:=c4.mono bY.1
    replace a1:=Frz.le_trans a1 bY.1
    replace b9:=Frz.le_trans b9 bY.1
    refine A6<|Ai<|A6<|B1 hF ?_
    have hr_:=Option.some.inj h
    subst hr_
    replace hS:=hS.d2
    exact .inr ⟨_,rfl,rfl,ν794,fE,g8,hext,hlow,gZ,hS⟩
   rintro c1 eJ w a he_ ⟨ν785,dQ,dU,d4,d7,bX,hlow,rfl,dJ,dK,hS⟩ hF
   replace h:=G4 h he_
   replace hext:=Frz.ext_trans hext bX
   replace hA3:=hA3.mono bX.1
   replace a2:=a2.mono bX.1
   replace a6:=a6.mono bX.1
   replace a7:=a7.mono bX.1
   replace a8:=a8.mono bX.1
   replace c4:=c4.mono bX.1
   replace a1:=Frz.le_trans a1 bX.1
   replace b9:=Frz.le_trans b9 bX.1
   refine rn 1 14 [(3,pb a0),(6,sv dQ c1.1 dU)] hF fun a hF=>?_
   refine wfn rfl ?_
   refine Ei (fun a w=>∃(b7:(List (List api_Echo))) (bI:Option Addr) (bK:Nat) (d8:List (List Value)),Fr 155 [] [(3,pb a0)] a∧St w0 (arr 83 1 (fN 1) bI b7.length bK d8::fz w0 ν785::blk cb0 98 #[sv d4 c1.2.b d7]::blk a0 39 #[.string aA.1,iv a9.1,iv aB.1,iv aN,iv aI,iv a4,iv aO,iv aP,iv aU,iv aV,sv bI b7 bK]::T_) w∧(All2 (Rp83 ν785) d8 b7)∧Dz aA a9 aB aN aI a4 aO aP aU aV c1 b7=some res) ?_ ?_
   ·skip
    refine wpIn_block ?_
    replace hS:=hS.nilarr 83 1 (fN 1)
    refine E4 (fun n_ a w=>∃(b8:(List (List api_Echo))) (b2:(List api_Echo)) (bR:Option Addr) (bS:Nat) (c3:List (List Value)) (aE:Option Addr) (aT:Nat),Fr 155 [] [(3,pb a0),(6,sv aE b2 aT)] a∧St w0 (arr 83 1 (fN 1) bR b8.length bS c3::fz w0 ν785::blk cb0 98 #[sv d4 c1.2.b d7]::blk a0 39 #[.string aA.1,iv a9.1,iv aB.1,iv aN,iv aI,iv a4,iv aO,iv aP,iv aU,iv aV,sv bR b8 bS]::T_) w∧(All2 (Rp83 ν785) c3 b8)∧(ArrM ν785 14 api_Echo.cells aE aT b2)∧Cb aA a9 aB aN aI a4 aO aP aU aV c1 n_ b8 b2=some res) F ⟨[],c1.1,none,0,[],dQ,dU,hF.sub kr,hS,All2.nil,dJ,h⟩ ?_
    rintro nk4 a w ⟨b8,b2,bR,bS,c3,aE,aT,hF,hS,dY,d9,h⟩
    rcases nk4 with _|nk4
    ·cases (show (none:Option (Except (Value×volume_reader) (volume_thing×volume_reader)))=some res from h)
    obtain ⟨k4,hk4⟩:∃k,k=Cb aA a9 aB aN aI a4 aO aP aU aV c1 nk4:=⟨_,rfl⟩
    replace h:F3 aA a9 aB aN aI a4 aO aP aU aV c1 k4 b8 b2=some res:=by rw [hk4];exact h
    rw [F3] at h
    refine B0 ?_
    refine esr ?_
    refine rn 3 3 [(3,pb a0),(6,sv aE b2 aT),(67,.bool (decide ((ln b2)>0)))] hF fun a hF=>?_
    refine wfn rfl ?_
    refine As hF rfl (fun hc=>?_) (fun hc=>?_)
    ·replace h:=Ao h hc
     refine wpIn_skip (A1 ?_)
     refine B0 ?_
     refine wpIn_block ?_
     replace h:=A4 h
     obtain ⟨aH,dV,h⟩:=h
     refine Cz 11 [10] _ (D:=fun w=>St w0 [arr 83 1 (fN 1) bR b8.length bS c3,blk cb0 98 #[sv d4 c1.2.b d7],blk a0 39 #[.string aA.1,iv a9.1,iv aB.1,iv aN,iv aI,iv a4,iv aO,iv aP,iv aU,iv aV,sv bR b8 bS]] w∧FrzAt ν785 w) kr kr hF.size (fun w hx=>?_) (fun _ _ h=>h)
     replace hS:=hS.later hx
     refine ⟨⟨St.pick [0,2,3] (by decide) hS,hS.frz (i:=1) rfl hlow⟩,?_⟩
     have jN:=Frz.le_refl ν785
     have h1:ArrM ν785 14 api_Echo.cells (Am aE a4.toNat (0:Int).toNat 14) aH.length aH:=fun w_ hw_=>(d9 w_ hw_).cutMD api_Echo.cells_len dV
     refine WT.s [0,1,2,3,4,5,6,7,8,9] [10] kr kr ?_
     refine Ek (rest:=[]) (obs:=[.run [] (Instr.loadAt 37 (.pointer (some ⟨a0,10,none⟩))) (sv bR b8 bS),.run [] (Instr.loadAt 3 (.pointer (some ⟨a0,5,none⟩))) (iv a4),.run [] (Instr.loadAt 3 (.pointer (some ⟨a0,5,none⟩))) (iv a4),.run [] (Instr.sliceAt 83 (sv aE b2 aT) none (some (iv a4)) (some (iv a4))) (.slice (Am aE a4.toNat (0:Int).toNat 14) aH.length aH.length)]) [0,1,2,3,4,5,6,7,8,9] [(3,pb a0),(6,sv aE b2 aT),(74,sv bR b8 bS),(82,.slice (Am aE a4.toNat (0:Int).toNat 14) aH.length aH.length)] hF kr kr (A0 (ob1 kr (fun _ hd=>hd.1.cell (i:=2) (j:=10) rfl rfl)) (A0 (ob1 kr (fun _ hd=>hd.1.cell (i:=2) (j:=5) rfl rfl)) (A0 (ob1 kr (fun _ hd=>hd.1.cell (i:=2) (j:=5) rfl rfl)) (A0 (Zs kr (d9 _ (hS.frz (i:=1) rfl hlow)) (fun _=>dV)) Aa)))) ⟨kr⟩ fun a hF=>?_
     refine WRun.fin ?_
     refine all_cons ?_ (Ay)
     have dZ:All2 (Rp83 ν785) ([[.slice (Am aE a4.toNat (0:Int).toNat 14) aH.length aH.length]]:List (List Value)) [aH]:=(All2.cons ⟨(Am aE a4.toNat (0:Int).toNat 14),aH.length,rfl,h1⟩ All2.nil)
     refine Sk (e:=83) (sz:=1) (f:=fN 1) (t:=37) (len:=1) (fun dR=>[(3,pb a0),(6,sv aE b2 aT),(74,sv bR b8 bS),(83,sb dR 1)]) #[(0,.slice (Am aE a4.toNat (0:Int).toNat 14) aH.length aH.length)] #[.slice (Am aE a4.toNat (0:Int).toNat 14) aH.length aH.length] ([[.slice (Am aE a4.toNat (0:Int).toNat 14) aH.length aH.length]]:List (List Value)) ([aH]) hF hS kr ⟨kr⟩ kr (Dp 1) rfl rfl rfl kr (fun _=>⟨kr⟩) fun dR w a hF hS=>⟨⟨St.pick [1,3,4] (by decide) hS,(hS.frz (i:=2) rfl hlow)⟩,?_⟩
     refine WT.z [] kr ?_
     refine WRun.fin ?_
     replace h:=A4 h
     obtain ⟨cL,dW,h⟩:=h
     have h7:All2 (Rp83 ν785) (c3++([[.slice (Am aE a4.toNat (0:Int).toNat 14) aH.length aH.length]]:List (List Value))) cL:=by rw [(J7 dW).1];exact All2.app dY dZ
     refine SK.wi (S5 (t:=37) (ty:=37) (bytes:=24) (c:=c3) (c':=([[.slice (Am aE a4.toNat (0:Int).toNat 14) aH.length aH.length]]:List (List Value))) (l:=b8) (l':=([aH])) (fun cE cF=>[(3,pb a0),(6,sv aE b2 aT),(84,sv cE cL cF)]) 1 hF hS rfl kr ⟨kr⟩ kr (hS.arr (i:=0) rfl) (ArrQ.one dZ Rp83.one) dW (fun _ _=>⟨kr⟩) fun cE cF w a hF hS=>?_)
     refine rn 1 13 [(3,pb a0),(6,sv aE b2 aT),(84,sv cE cL cF),(85,.pointer (some ⟨a0,10,none⟩))] hF fun a hF=>?_
     refine SK.wi (Ap (t:=37) [(3,pb a0),(6,sv aE b2 aT)] 4 10 (sv cE cL cF) #[.string aA.1,iv a9.1,iv aB.1,iv aN,iv aI,iv a4,iv aO,iv aP,iv aU,iv aV,sv cE cL cF] hF hS rfl kr ⟨kr⟩ kr kr kr kr ⟨kr⟩ fun w a hF hS=>?_)
     refine WI.fin rfl (Ac<|A1<|?_)
     refine WI.region ?_
     replace h:=A4 h
     obtain ⟨dI,dX,h⟩:=h
     have h2:ArrM ν785 14 api_Echo.cells (Am aE aT a4.toNat 14) (aT-a4.toNat) dI:=fun w_ hw_=>(d9 w_ hw_).cutD api_Echo.cells_len dX
     refine rno 6 [.run [] (Instr.loadAt 3 (.pointer (some ⟨a0,5,none⟩))) (iv a4),.run [] (Instr.sliceAt 83 (sv aE b2 aT) (some (iv a4)) none none) (.slice (Am aE aT a4.toNat 14) dI.length (aT-a4.toNat))] 6 [(3,pb a0),(6,.slice (Am aE aT a4.toNat 14) dI.length (aT-a4.toNat))] hF (A0 (ob1 kr (fun _ hd=>(hS.at_ hd).cell (i:=4) (j:=5) rfl rfl)) (A0 (M3 kr (d9 _ (hS.frz (i:=2) rfl hlow)) (fun _=>dX)) Aa)) fun a hF=>?_
     refine wfn rfl ?_
     rw [hk4] at h
     exact ⟨nk4,Nat.lt_succ_self _,cL,dI,cE,cF,(c3++([[.slice (Am aE a4.toNat (0:Int).toNat 14) aH.length aH.length]]:List (List Value))),(Am aE aT a4.toNat 14),(aT-a4.toNat),hF.sub kr,hS.d0,h7,h2,h⟩
    ·replace h:=An h hc
     refine wpIn_exit (Ad<|Ad<|Bb<|A1 ?_)
     exact ⟨b8,bR,bS,c3,hF.sub kr,hS,dY,h⟩
   rintro a w ⟨b7,bI,bK,d8,hF,hS,dL,h⟩
   rw [Dz] at h
   refine esr ?_
   refine rno 4 [.run [] (Instr.loadAt 39 (pb a0)) (.agg #[.string aA.1,iv a9.1,iv aB.1,iv aN,iv aI,iv a4,iv aO,iv aP,iv aU,iv aV,sv bI b7 bK])] 4 [(2,.iface 112 (.agg #[.string aA.1,iv a9.1,iv aB.1,iv aN,iv aI,iv a4,iv aO,iv aP,iv aU,iv aV,sv bI b7 bK]))] hF (A0 (obN (us:=[.string aA.1,iv a9.1,iv aB.1,iv aN,iv aI,iv a4,iv aO,iv aP,iv aU,iv aV,sv bI b7 bK]) kr (fun _ hd=>((hS.at_ hd).blk (i:=3) rfl).cells rfl)) Aa) fun a hF=>?_
   refine wfn rfl ?_
   refine wpIn_ret (Ar<|Ab<|Ak [.tmp 2] [.iface 112 (.agg #[.string aA.1,iv a9.1,iv aB.1,iv aN,iv aI,iv a4,iv aO,iv aP,iv aU,iv aV,sv bI b7 bK])] hF rfl ⟨rfl,trivial⟩ ?_)
   obtain ⟨ν877,bC,hlow,hS,i2⟩:=hS.freeze (i:=1) (j:=0) rfl rfl (by decide) hlow
   replace hA3:=hA3.mono bC.1
   replace a2:=a2.mono bC.1
   replace a6:=a6.mono bC.1
   replace a7:=a7.mono bC.1
   replace a8:=a8.mono bC.1
   replace c4:=c4.mono bC.1
   replace dJ:=dJ.mono bC.1
   replace dK:=dK.mono bC.1
   replace dL:=All2.mono Rp83.mono bC.1 dL
   replace a1:=Frz.le_trans a1 bC.1
   replace b9:=Frz.le_trans b9 bC.1
   replace hext:=Frz.ext_trans hext bC
   have h0:=ArrQ.of_arr (l:=b7) i2 dL Rp83.mono (Frz.le_refl _)
   have hr_:=Option.some.inj h
   subst hr_
   replace hS:=hS.d2
   exact .inl ⟨_,_,rfl,rfl,ν877,(.iface 112 (.agg #[.string aA.1,iv a9.1,iv aB.1,iv aN,iv aI,iv a4,iv aO,iv aP,iv aU,iv aV,sv bI b7 bK])),d4,d7,hext,hlow,rfl,(show volume_thing.R _ _ (.ic112 (volume_sweep.mk (api_Sweep.mk (api_Site.mk aA.1 a9.1 aB.1 aN aI a4 aO aP) aU aV b7))) from ⟨[.string aA.1,iv a9.1,iv aB.1,iv aN,iv aI,iv a4,iv aO,iv aP,iv aU,iv aV,sv bI b7 bK],rfl,⟨bI,bK,d8,rfl,h0⟩⟩),dK,hS⟩
  ·replace h:=An h hc
   refine esr ?_
   refine rn 2 2 [(0,pb cb0),(10,iv cN.1),(89,.bool (cN.1==2))] hF fun a hF=>?_
   refine wfn rfl ?_
   refine As hF rfl (fun hc=>?_) (fun hc=>?_)
   ·replace h:=Ao h hc
    refine esr ?_
    refine SK.wi (Bs (t:=114) (fun a5=>[(0,pb cb0),(7,pb a5)]) #[.string ByteArray.empty,iv 0,iv 0,iv 0,iv 0,iv 0,iv 0,.slice none 0 0] hF hS kr ⟨kr⟩ kr (fun _=>⟨kr⟩) fun a5 w a hF hS=>?_)
    refine wfn rfl ?_
    refine esr ?_
    refine rn 1 1 [(0,pb cb0),(7,pb a5),(91,pb cb0)] hF fun a hF=>?_
    replace h:=A4 h
    obtain ⟨jR,hE,h⟩:=h
    replace hS:=hS.s2.s2
    refine Dv (fun e4=>[(0,pb cb0),(7,pb a5),(92,e4)]) hF kr ⟨kr⟩ (H6 F _ _ hE ν610 w0 w _ hlow a2 hS) (fun _=>⟨kr⟩) ?_ ?_
    ·rintro j5 w he_ ⟨ν1065,eW,fP,dB,hlow,gH,hS⟩
     replace h:=G3 h he_
     replace hext:=Frz.ext_trans hext dB
     replace hA3:=hA3.mono dB.1
     replace a2:=a2.mono dB.1
     replace a1:=Frz.le_trans a1 dB.1
     refine A6<|Ai<|A6<|B1 hF ?_
     have hr_:=Option.some.inj h
     subst hr_
     replace hS:=hS.d2
     exact .inr ⟨_,rfl,rfl,ν1065,eW,fP,hext,hlow,gH,hS⟩
    rintro aY e4 w a he_ ⟨ν1059,i8,iO,dA,hlow,rfl,aD,hS⟩ hF
    replace h:=G4 h he_
    replace hext:=Frz.ext_trans hext dA
    replace hA3:=hA3.mono dA.1
    replace a2:=a2.mono dA.1
    replace a1:=Frz.le_trans a1 dA.1
    refine rn 1 3 [(0,pb cb0),(7,pb a5),(92,.string aY.1),(93,pb a5)] hF fun a hF=>?_
    refine SK.wi (Ap (t:=9) [(0,pb cb0),(7,pb a5)] 2 0 (.string aY.1) #[.string aY.1,iv 0,iv 0,iv 0,iv 0,iv 0,iv 0,.slice none 0 0] hF hS rfl kr ⟨kr⟩ kr kr kr kr ⟨kr⟩ fun w a hF hS=>?_)
    refine wfn rfl ?_
    refine esr ?_
    refine rn 1 1 [(0,pb cb0),(7,pb a5),(94,pb cb0)] hF fun a hF=>?_
    replace h:=A4 h
    obtain ⟨jS,hG,h⟩:=h
    refine Dv (fun e5=>[(0,pb cb0),(7,pb a5),(95,e5)]) hF kr ⟨kr⟩ (Aj F _ _ hG ν1059 w0 w _ hlow aD hS) (fun _=>⟨kr⟩) ?_ ?_
    ·rintro j6 w he_ ⟨ν1079,eX,fQ,cR,hlow,gI,hS⟩
     replace h:=G3 h he_
     replace hext:=Frz.ext_trans hext cR
     replace hA3:=hA3.mono cR.1
     replace a2:=a2.mono cR.1
     replace aD:=aD.mono cR.1
     replace a1:=Frz.le_trans a1 cR.1
     refine A6<|Ai<|A6<|B1 hF ?_
     have hr_:=Option.some.inj h
     subst hr_
     replace hS:=hS.d2
     exact .inr ⟨_,rfl,rfl,ν1079,eX,fQ,hext,hlow,gI,hS⟩
    rintro aZ e5 w a he_ ⟨ν1073,i9,iP,cQ,hlow,rfl,aF,hS⟩ hF
    replace h:=G4 h he_
    replace hext:=Frz.ext_trans hext cQ
    replace hA3:=hA3.mono cQ.1
    replace a2:=a2.mono cQ.1
    replace aD:=aD.mono cQ.1
    replace a1:=Frz.le_trans a1 cQ.1
    refine rn 1 3 [(0,pb cb0),(7,pb a5),(95,iv aZ.1),(96,.pointer (some ⟨a5,1,none⟩))] hF fun a hF=>?_
    refine SK.wi (Ap (t:=3) [(0,pb cb0),(7,pb a5)] 2 1 (iv aZ.1) #[.string aY.1,iv aZ.1,iv 0,iv 0,iv 0,iv 0,iv 0,.slice none 0 0] hF hS rfl kr ⟨kr⟩ kr kr kr kr ⟨kr⟩ fun w a hF hS=>?_)
    refine wfn rfl ?_
    refine esr ?_
    refine rn 1 1 [(0,pb cb0),(7,pb a5),(97,pb cb0)] hF fun a hF=>?_
    replace h:=A4 h
    obtain ⟨jT,hH,h⟩:=h
    refine Dv (fun e6=>[(0,pb cb0),(7,pb a5),(98,e6)]) hF kr ⟨kr⟩ (Db F _ _ hH ν1073 w0 w _ hlow aF hS) (fun _=>⟨kr⟩) ?_ ?_
    ·rintro j7 w he_ ⟨ν1093,eY,fR,cI,hlow,gJ,hS⟩
     replace h:=G3 h he_
     replace hext:=Frz.ext_trans hext cI
     replace hA3:=hA3.mono cI.1
     replace a2:=a2.mono cI.1
     replace aD:=aD.mono cI.1
     replace aF:=aF.mono cI.1
     replace a1:=Frz.le_trans a1 cI.1
     refine A6<|Ai<|A6<|B1 hF ?_
     have hr_:=Option.some.inj h
     subst hr_
     replace hS:=hS.d2
     exact .inr ⟨_,rfl,rfl,ν1093,eY,fR,hext,hlow,gJ,hS⟩
    rintro aK e6 w a he_ ⟨ν1087,iA,iQ,cH,hlow,rfl,aR,hS⟩ hF
    replace h:=G4 h he_
    replace hext:=Frz.ext_trans hext cH
    replace hA3:=hA3.mono cH.1
    replace a2:=a2.mono cH.1
    replace aD:=aD.mono cH.1
    replace aF:=aF.mono cH.1
    replace a1:=Frz.le_trans a1 cH.1
    refine rn 1 3 [(0,pb cb0),(7,pb a5),(98,iv aK.1),(99,pb cb0)] hF fun a hF=>?_
    replace h:=A4 h
    obtain ⟨jU,hI,h⟩:=h
    refine Dv (fun e7=>[(0,pb cb0),(7,pb a5),(98,iv aK.1),(100,e7)]) hF kr ⟨kr⟩ (Db F _ _ hI ν1087 w0 w _ hlow aR hS) (fun _=>⟨kr⟩) ?_ ?_
    ·rintro j8 w he_ ⟨ν1107,eZ,fS,cC,hlow,gK,hS⟩
     replace h:=G3 h he_
     replace hext:=Frz.ext_trans hext cC
     replace hA3:=hA3.mono cC.1
     replace a2:=a2.mono cC.1
     replace aD:=aD.mono cC.1
     replace aF:=aF.mono cC.1
     replace aR:=aR.mono cC.1
     replace a1:=Frz.le_trans a1 cC.1
     refine A6<|Ai<|A6<|B1 hF ?_
     have hr_:=Option.some.inj h
     subst hr_
     replace hS:=hS.d2
     exact .inr ⟨_,rfl,rfl,ν1107,eZ,fS,hext,hlow,gK,hS⟩
    rintro aQ e7 w a he_ ⟨ν1101,iB,iR,cB,hlow,rfl,aW,hS⟩ hF
    replace h:=G4 h he_
    replace hext:=Frz.ext_trans hext cB
    replace hA3:=hA3.mono cB.1
    replace a2:=a2.mono cB.1
    replace aD:=aD.mono cB.1
    replace aF:=aF.mono cB.1
    replace aR:=aR.mono cB.1
    replace a1:=Frz.le_trans a1 cB.1
    refine rn 3 7 [(0,pb cb0),(7,pb a5),(98,iv aK.1),(100,iv aQ.1),(103,.pointer (some ⟨a5,2,none⟩))] hF fun a hF=>?_
    refine SK.wi (Ap (t:=3) [(0,pb cb0),(7,pb a5),(100,iv aQ.1)] 2 2 (iv aK.1) #[.string aY.1,iv aZ.1,iv aK.1,iv 0,iv 0,iv 0,iv 0,.slice none 0 0] hF hS rfl kr ⟨kr⟩ kr kr kr kr ⟨kr⟩ fun w a hF hS=>?_)
    refine rn 3 11 [(0,pb cb0),(7,pb a5),(100,iv aQ.1),(106,.pointer (some ⟨a5,3,none⟩))] hF fun a hF=>?_
    refine SK.wi (Ap (t:=3) [(0,pb cb0),(7,pb a5)] 2 3 (iv aQ.1) #[.string aY.1,iv aZ.1,iv aK.1,iv aQ.1,iv 0,iv 0,iv 0,.slice none 0 0] hF hS rfl kr ⟨kr⟩ kr kr kr kr ⟨kr⟩ fun w a hF hS=>?_)
    refine wfn rfl ?_
    refine esr ?_
    refine rn 1 1 [(0,pb cb0),(7,pb a5),(107,pb cb0)] hF fun a hF=>?_
    replace h:=A4 h
    obtain ⟨jV,hJ,h⟩:=h
    refine Dv (fun e8=>[(0,pb cb0),(7,pb a5),(108,e8)]) hF kr ⟨kr⟩ (Aj F _ _ hJ ν1101 w0 w _ hlow aW hS) (fun _=>⟨kr⟩) ?_ ?_
    ·rintro j9 w he_ ⟨ν1121,f0,fT,c6,hlow,gL,hS⟩
     replace h:=G3 h he_
     replace hext:=Frz.ext_trans hext c6
     replace hA3:=hA3.mono c6.1
     replace a2:=a2.mono c6.1
     replace aD:=aD.mono c6.1
     replace aF:=aF.mono c6.1
     replace aR:=aR.mono c6.1
     replace aW:=aW.mono c6.1
     replace a1:=Frz.le_trans a1 c6.1
     refine A6<|Ai<|A6<|B1 hF ?_
     have hr_:=Option.some.inj h
     subst hr_
     replace hS:=hS.d2
     exact .inr ⟨_,rfl,rfl,ν1121,f0,fT,hext,hlow,gL,hS⟩
    rintro aL e8 w a he_ ⟨ν1115,iC,iS,c5,hlow,rfl,b4,hS⟩ hF
    replace h:=G4 h he_
    replace hext:=Frz.ext_trans hext c5
    replace hA3:=hA3.mono c5.1
    replace a2:=a2.mono c5.1
    replace aD:=aD.mono c5.1
    replace aF:=aF.mono c5.1
    replace aR:=aR.mono c5.1
    replace aW:=aW.mono c5.1
    replace a1:=Frz.le_trans a1 c5.1
    refine rn 1 3 [(0,pb cb0),(7,pb a5),(108,iv aL.1),(109,pb cb0)] hF fun a hF=>?_
    replace h:=A4 h
    obtain ⟨jW,hK,h⟩:=h
    refine Dv (fun e9=>[(0,pb cb0),(7,pb a5),(108,iv aL.1),(110,e9)]) hF kr ⟨kr⟩ (Aj F _ _ hK ν1115 w0 w _ hlow b4 hS) (fun _=>⟨kr⟩) ?_ ?_
    ·rintro jA w he_ ⟨ν1135,f1,fU,bW,hlow,gM,hS⟩
     replace h:=G3 h he_
     replace hext:=Frz.ext_trans hext bW
     replace hA3:=hA3.mono bW.1
     replace a2:=a2.mono bW.1
     replace aD:=aD.mono bW.1
     replace aF:=aF.mono bW.1
     replace aR:=aR.mono bW.1
     replace aW:=aW.mono bW.1
     replace b4:=b4.mono bW.1
     replace a1:=Frz.le_trans a1 bW.1
     refine A6<|Ai<|A6<|B1 hF ?_
     have hr_:=Option.some.inj h
     subst hr_
     replace hS:=hS.d2
     exact .inr ⟨_,rfl,rfl,ν1135,f1,fU,hext,hlow,gM,hS⟩
    rintro aJ e9 w a he_ ⟨ν1129,iD,iT,bV,hlow,rfl,bU,hS⟩ hF
    replace h:=G4 h he_
    replace hext:=Frz.ext_trans hext bV
    replace hA3:=hA3.mono bV.1
    replace a2:=a2.mono bV.1
    replace aD:=aD.mono bV.1
    replace aF:=aF.mono bV.1
    replace aR:=aR.mono bV.1
    replace aW:=aW.mono bV.1
    replace b4:=b4.mono bV.1
    replace a1:=Frz.le_trans a1 bV.1
    refine rn 1 5 [(0,pb cb0),(7,pb a5),(108,iv aL.1),(110,iv aJ.1),(111,pb cb0)] hF fun a hF=>?_
    replace h:=A4 h
    obtain ⟨jX,hL,h⟩:=h
    refine Dv (fun eA=>[(0,pb cb0),(7,pb a5),(108,iv aL.1),(110,iv aJ.1),(112,eA)]) hF kr ⟨kr⟩ (Aj F _ _ hL ν1129 w0 w _ hlow bU hS) (fun _=>⟨kr⟩) ?_ ?_
    ·rintro jB w he_ ⟨ν1149,f3,fX,bM,hlow,gN,hS⟩
     replace h:=G3 h he_
     replace hext:=Frz.ext_trans hext bM
     replace hA3:=hA3.mono bM.1
     replace a2:=a2.mono bM.1
     replace aD:=aD.mono bM.1
     replace aF:=aF.mono bM.1
     replace aR:=aR.mono bM.1
     replace aW:=aW.mono bM.1
     replace b4:=b4.mono bM.1
     replace bU:=bU.mono bM.1
     replace a1:=Frz.le_trans a1 bM.1
     refine A6<|Ai<|A6<|B1 hF ?_
     have hr_:=Option.some.inj h
     subst hr_
     replace hS:=hS.d2
     exact .inr ⟨_,rfl,rfl,ν1149,f3,fX,hext,hlow,gN,hS⟩
    rintro aM eA w a he_ ⟨ν1143,f2,fW,bL,hlow,rfl,cG,hS⟩ hF
    replace h:=G4 h he_
    replace hext:=Frz.ext_trans hext bL
    replace hA3:=hA3.mono bL.1
    replace a2:=a2.mono bL.1
    replace aD:=aD.mono bL.1
    replace aF:=aF.mono bL.1
    replace aR:=aR.mono bL.1
    replace aW:=aW.mono bL.1
    replace b4:=b4.mono bL.1
    replace bU:=bU.mono bL.1
    replace a1:=Frz.le_trans a1 bL.1
    refine rn 3 9 [(0,pb cb0),(7,pb a5),(108,iv aL.1),(110,iv aJ.1),(112,iv aM.1),(115,.pointer (some ⟨a5,4,none⟩))] hF fun a hF=>?_
    refine SK.wi (Ap (t:=3) [(0,pb cb0),(7,pb a5),(110,iv aJ.1),(112,iv aM.1)] 2 4 (iv aL.1) #[.string aY.1,iv aZ.1,iv aK.1,iv aQ.1,iv aL.1,iv 0,iv 0,.slice none 0 0] hF hS rfl kr ⟨kr⟩ kr kr kr kr ⟨kr⟩ fun w a hF hS=>?_)
    refine rn 3 13 [(0,pb cb0),(7,pb a5),(110,iv aJ.1),(112,iv aM.1),(118,.pointer (some ⟨a5,5,none⟩))] hF fun a hF=>?_
    refine SK.wi (Ap (t:=3) [(0,pb cb0),(7,pb a5),(112,iv aM.1)] 2 5 (iv aJ.1) #[.string aY.1,iv aZ.1,iv aK.1,iv aQ.1,iv aL.1,iv aJ.1,iv 0,.slice none 0 0] hF hS rfl kr ⟨kr⟩ kr kr kr kr ⟨kr⟩ fun w a hF hS=>?_)
    refine rn 3 17 [(0,pb cb0),(7,pb a5),(112,iv aM.1),(121,.pointer (some ⟨a5,6,none⟩))] hF fun a hF=>?_
    refine SK.wi (Ap (t:=3) [(0,pb cb0),(7,pb a5)] 2 6 (iv aM.1) #[.string aY.1,iv aZ.1,iv aK.1,iv aQ.1,iv aL.1,iv aJ.1,iv aM.1,.slice none 0 0] hF hS rfl kr ⟨kr⟩ kr kr kr kr ⟨kr⟩ fun w a hF hS=>?_)
    refine wfn rfl ?_
    refine esr ?_
    refine rx 4 [.run [] (Instr.loadAt 41 (.pointer (some ⟨a5,2,none⟩))) (.agg #[iv aK.1,iv aQ.1,iv aL.1,iv aJ.1,iv aM.1]),.call [] 52 #[.agg #[iv aK.1,iv aQ.1,iv aL.1,iv aJ.1,iv aM.1]] (iv (Bh (api_Grid.mk aK.1 aQ.1 aL.1 aJ.1 aM.1)))] 4 [(0,pb cb0),(7,pb a5),(125,iv (Bh (api_Grid.mk aK.1 aQ.1 aL.1 aJ.1 aM.1)))] hF (A0 (obN (us:=[iv aK.1,iv aQ.1,iv aL.1,iv aJ.1,iv aM.1]) kr (fun _ hd=>((hS.later hd).blk (i:=2) rfl).cells rfl)) (A0 (show Ob.ok _ Ext _ _ from fun hk w2 hd=>Md (api_Grid.mk aK.1 aQ.1 aL.1 aJ.1 aM.1) _ rfl _ w2 (A7 w2)) Aa)) fun a w hF hx=>?_
    replace hS:=hS.later hx
    replace h:=A4 h
    obtain ⟨jY,hM,h⟩:=h
    refine Xw (fun i3=>[(0,pb cb0),(7,pb a5)]) hF kr ⟨kr⟩ (M9 F _ _ hM (Bp w) w (A7 w)) (fun _=>⟨kr⟩) ?_ ?_
    ·intro v_ w he_ hx
     replace hS:=hS.later hx
     replace h:=G3 h he_
     refine A6<|Ai<|A6<|B1 hF ?_
     have hr_:=Option.some.inj h
     subst hr_
     replace hS:=hS.d2
     exact .inr ⟨_,rfl,rfl,ν1143,f2,fW,hext,hlow,cG,hS⟩
    rintro jZ i3 w a he_ ⟨rfl,hx⟩ hF
    replace h:=G4 h he_
    replace hS:=hS.later hx
    refine wfn rfl ?_
    refine esr ?_
    replace h:=A4 h
    obtain ⟨eN,h8,h⟩:=h
    refine rno 13 [.run [] (Instr.loadAt 3 (.pointer (some ⟨a5,5,none⟩))) (iv aJ.1),.run [] (Instr.loadAt 3 (.pointer (some ⟨a5,6,none⟩))) (iv aM.1),.run [] (binOp .mul 3 (iv aJ.1) (iv aM.1)) (iv eN)] 13 [(7,pb a5),(127,pb cb0),(136,iv eN),(137,.agg #[iv 0,iv 0]),(139,.func (.func 54) #[pb cb0] #[])] hF (A0 (ob1 kr (fun _ hd=>(hS.at_ hd).cell (i:=2) (j:=5) rfl rfl)) (A0 (ob1 kr (fun _ hd=>(hS.at_ hd).cell (i:=2) (j:=6) rfl rfl)) (A0 (K8 (fun _=>h8)) Aa))) fun a hF=>?_
    replace h:=A4 h
    obtain ⟨k0,hN,h⟩:=h
    refine Dv (fun eB=>[(7,pb a5),(140,eB)]) hF kr ⟨kr⟩ (Ki F _ _ _ _ hN ν1143 w0 w _ hlow cG hS) (fun _=>⟨kr⟩) ?_ ?_
    ·rintro jC w he_ ⟨ν1170,f5,fZ,bG,hlow,gQ,hS⟩
     replace h:=G3 h he_
     replace hext:=Frz.ext_trans hext bG
     replace hA3:=hA3.mono bG.1
     replace a2:=a2.mono bG.1
     replace aD:=aD.mono bG.1
     replace aF:=aF.mono bG.1
     replace aR:=aR.mono bG.1
     replace aW:=aW.mono bG.1
     replace b4:=b4.mono bG.1
     replace bU:=bU.mono bG.1
     replace cG:=cG.mono bG.1
     replace a1:=Frz.le_trans a1 bG.1
     refine A6<|Ai<|A6<|B1 hF ?_
     have hr_:=Option.some.inj h
     subst hr_
     replace hS:=hS.d2
     exact .inr ⟨_,rfl,rfl,ν1170,f5,fZ,hext,hlow,gQ,hS⟩
    rintro bP eB w a he_ ⟨ν1161,bH,bJ,f4,fY,bF,hlow,rfl,gO,gP,hS⟩ hF
    replace h:=G4 h he_
    replace hext:=Frz.ext_trans hext bF
    replace hA3:=hA3.mono bF.1
    replace a2:=a2.mono bF.1
    replace aD:=aD.mono bF.1
    replace aF:=aF.mono bF.1
    replace aR:=aR.mono bF.1
    replace aW:=aW.mono bF.1
    replace b4:=b4.mono bF.1
    replace bU:=bU.mono bF.1
    replace cG:=cG.mono bF.1
    replace a1:=Frz.le_trans a1 bF.1
    refine rn 2 16 [(7,pb a5),(140,sv bH bP.1 bJ),(142,.pointer (some ⟨a5,7,none⟩))] hF fun a hF=>?_
    refine SK.wi (Ap (t:=42) [(7,pb a5)] 2 7 (sv bH bP.1 bJ) #[.string aY.1,iv aZ.1,iv aK.1,iv aQ.1,iv aL.1,iv aJ.1,iv aM.1,sv bH bP.1 bJ] hF hS rfl kr ⟨kr⟩ kr kr kr kr ⟨kr⟩ fun w a hF hS=>?_)
    refine wfn rfl ?_
    refine esr ?_
    refine rno 3 [.run [] (Instr.loadAt 114 (pb a5)) (.agg #[.string aY.1,iv aZ.1,iv aK.1,iv aQ.1,iv aL.1,iv aJ.1,iv aM.1,sv bH bP.1 bJ])] 3 [(2,.iface 114 (.agg #[.string aY.1,iv aZ.1,iv aK.1,iv aQ.1,iv aL.1,iv aJ.1,iv aM.1,sv bH bP.1 bJ]))] hF (A0 (obN (us:=[.string aY.1,iv aZ.1,iv aK.1,iv aQ.1,iv aL.1,iv aJ.1,iv aM.1,sv bH bP.1 bJ]) kr (fun _ hd=>((hS.at_ hd).blk (i:=2) rfl).cells rfl)) Aa) fun a hF=>?_
    refine wfn rfl ?_
    refine wpIn_ret (Ar<|Ab<|Ak [.tmp 2] [.iface 114 (.agg #[.string aY.1,iv aZ.1,iv aK.1,iv aQ.1,iv aL.1,iv aJ.1,iv aM.1,sv bH bP.1 bJ])] hF rfl ⟨rfl,trivial⟩ ?_)
    have hr_:=Option.some.inj h
    subst hr_
    replace hS:=hS.d2
    exact .inl ⟨_,_,rfl,rfl,ν1161,(.iface 114 (.agg #[.string aY.1,iv aZ.1,iv aK.1,iv aQ.1,iv aL.1,iv aJ.1,iv aM.1,sv bH bP.1 bJ])),f4,fY,hext,hlow,rfl,(show volume_thing.R _ _ (.ic114 (volume_field.mk aY.1 aZ.1 (api_Field.mk (api_Grid.mk aK.1 aQ.1 aL.1 aJ.1 aM.1) bP.1))) from ⟨[.string aY.1,iv aZ.1,iv aK.1,iv aQ.1,iv aL.1,iv aJ.1,iv aM.1,sv bH bP.1 bJ],rfl,⟨bH,bJ,rfl,gO⟩⟩),gP,hS⟩
   ·replace h:=An h hc
    refine esr ?_
    refine rn 2 2 [(0,pb cb0),(145,.bool (cN.1==3))] hF fun a hF=>?_
    refine wfn rfl ?_
    refine As hF rfl (fun hc=>?_) (fun hc=>?_)
    ·replace h:=Ao h hc
     refine esr ?_
     refine rn 1 1 [(0,pb cb0),(147,pb cb0)] hF fun a hF=>?_
     replace h:=A4 h
     obtain ⟨k1,hO,h⟩:=h
     refine Dv (fun eC=>[(0,pb cb0),(148,eC)]) hF kr ⟨kr⟩ (Aj F _ _ hO ν610 w0 w _ hlow a2 hS) (fun _=>⟨kr⟩) ?_ ?_
     ·rintro jD w he_ ⟨ν1184,f6,g0,dD,hlow,gR,hS⟩
      replace h:=G3 h he_
      replace hext:=Frz.ext_trans hext dD
      replace hA3:=hA3.mono dD.1
      replace a2:=a2.mono dD.1
      replace a1:=Frz.le_trans a1 dD.1
      refine A6<|Ai<|A6<|B1 hF ?_
      have hr_:=Option.some.inj h
      subst hr_
      replace hS:=hS
      exact .inr ⟨_,rfl,rfl,ν1184,f6,g0,hext,hlow,gR,hS⟩
     rintro c9 eC w a he_ ⟨ν1178,iE,iU,dC,hlow,rfl,cP,hS⟩ hF
     replace h:=G4 h he_
     replace hext:=Frz.ext_trans hext dC
     replace hA3:=hA3.mono dC.1
     replace a2:=a2.mono dC.1
     replace a1:=Frz.le_trans a1 dC.1
     refine rn 1 3 [(0,pb cb0),(8,iv c9.1)] hF fun a hF=>?_
     refine wfn rfl ?_
     refine esr ?_
     refine rn 2 2 [(149,iv c9.1),(150,pb cb0)] hF fun a hF=>?_
     replace h:=A4 h
     obtain ⟨k2,hP,h⟩:=h
     refine Dv (fun eD=>[(149,iv c9.1),(151,eD)]) hF kr ⟨kr⟩ (H6 F _ _ hP ν1178 w0 w _ hlow cP hS) (fun _=>⟨kr⟩) ?_ ?_
     ·rintro jE w he_ ⟨ν1198,f8,g2,cT,hlow,gT,hS⟩
      replace h:=G3 h he_
      replace hext:=Frz.ext_trans hext cT
      replace hA3:=hA3.mono cT.1
      replace a2:=a2.mono cT.1
      replace cP:=cP.mono cT.1
      replace a1:=Frz.le_trans a1 cT.1
      refine A6<|Ai<|A6<|B1 hF ?_
      have hr_:=Option.some.inj h
      subst hr_
      replace hS:=hS
      exact .inr ⟨_,rfl,rfl,ν1198,f8,g2,hext,hlow,gT,hS⟩
     rintro cY eD w a he_ ⟨ν1192,f7,g1,cS,hlow,rfl,gS,hS⟩ hF
     replace h:=G4 h he_
     replace hext:=Frz.ext_trans hext cS
     replace hA3:=hA3.mono cS.1
     replace a2:=a2.mono cS.1
     replace cP:=cP.mono cS.1
     replace a1:=Frz.le_trans a1 cS.1
     refine rn 3 6 [(2,.iface 116 (.agg #[iv c9.1,.string cY.1]))] hF fun a hF=>?_
     refine wfn rfl ?_
     refine wpIn_ret (Ar<|Ab<|Ak [.tmp 2] [.iface 116 (.agg #[iv c9.1,.string cY.1])] hF rfl ⟨rfl,trivial⟩ ?_)
     have hr_:=Option.some.inj h
     subst hr_
     replace hS:=hS
     exact .inl ⟨_,_,rfl,rfl,ν1192,(.iface 116 (.agg #[iv c9.1,.string cY.1])),f7,g1,hext,hlow,rfl,(show volume_thing.R _ _ (.ic116 (volume_note.mk c9.1 cY.1)) from ⟨[iv c9.1,.string cY.1],rfl,rfl⟩),gS,hS⟩
    ·replace h:=An h hc
     refine wpIn_skip (Ac<|A1<|?_)
     exact ⟨cN.2.b,ν610,f9,g3,hF.sub kr,hS,a2,a1,hext,hlow,h⟩
 clear a1
 rintro a w ⟨dG,ν600,cZ,d5,hF,hS,gU,h6,hext,hlow,h⟩
 replace hA3:=hA3.mono h6
 rw [F4] at h
 refine WI.region ?_
 refine rn 1 1 [(154,.iface 101 (iv 7))] hF fun a hF=>?_
 refine Nb (t:=101) (v:=iv 7) hF ⟨kr⟩ (B1 hF ?_)
 have hr_:=Option.some.inj h
 subst hr_
 replace hS:=hS
 exact .inr ⟨_,rfl,rfl,ν600,cZ,d5,hext,hlow,gU,hS⟩
end Go.Proofs.Ytifbomimeodibaa
