import Derived.Test.YtifbomimeodibaaGreatV5XD
import Derived.Test.YtifbomimeodibaaGreatProg
import Derived.Test.YtifbomimeodibaaGreatV5XW2
import Derived.Test.YtifbomimeodibaaGreatV5XW5
import Derived.Test.YtifbomimeodibaaGreatV5XW9
namespace Go.Proofs.YtifbomimeodibaaGreat
open Go Go.RowKit Go.Eng
set_option maxRecDepth 10000
set_option maxHeartbeats 4000000
set_option linter.unusedVariables false
set_option linter.unusedSimpArgs false
theorem Lp (F:Nat) (p0:volume_sweep) (res:Int) (h:Bz F p0=some res) (μ:Frz) (w0:World) (hm:FrzAt μ w0) {ad1:Option Addr} {cap2:Nat} {css3:List (List Value)} (hA4:ArrQ μ 1 Rp87 ad1 cap2 css3 p0.Sweep.Rays):Calls Tryz.prog 162 #[.agg (p0.Sweep.ax ad1 cap2)] w0 (fun e w=>e=.returned (iv res)∧Ext w0 w):=by
 obtain ⟨hlow,hS⟩:=hm.init
 have hext:=Frz.ext_refl w0.heap.size μ
 rw [Bz] at h
 refine feW Tryz.func162 6 [(0,.agg (p0.Sweep.ax ad1 cap2))] hS fun a w hF hS=>?_
 refine esr<|SK.wi (qBa 156 (p0.Sweep.ax ad1 cap2) (fun b5=>[(1,pb b5)]) hF hS fun b5 w a hF hS=>?_)
 refine qn 1 2 [] hF fun a hF=>wfn rfl ?_
 refine esr ?_
 obtain ⟨y6,hy6,h⟩:=A0 h
 refine rX 4 4 [(2,iv y6)] hF (oN 41 0 0 11 hS.e rfl<|oC (fun w2 hd=>Rx F p0.Sweep _ hy6 _ w2 (A4 w2) (hA4.mono Rp87.mono (FrzAt.le_mem ((hS.later hd).frz (i:=1) rfl hlow))))<|A1) fun a w hF hx=>?_
 replace hS:=hS.later hx
 refine wfn rfl ?_
 refine wpIn_ret (A7 [.tmp 2] [_] hF rfl ⟨rfl,trivial⟩ ?_)
 obtain rfl:=Ae h
 exact ⟨rfl,hS.ext⟩
theorem Po (F:Nat) (p0:ref12_reader) (p1:Int) (res:((List api_Echo)×ref12_reader)) (h:Ef F p0 p1=some res) (μ:Frz) (w0 w1:World) (T_:List Res) (hlow:Ax w0 μ) {cb0:Nat} {ad1:Option Addr} {cap2:Nat} (hA3:ArrM μ 1 (fK .u8) ad1 cap2 p0.b) (hS:St w0 (fz w0 μ::blk cb0 135 #[sv ad1 p0.b cap2,.bool p0.bad]::T_) w1):Ba Tryz.prog 101 #[pb cb0,iv p1] w1 (fun e w=>∃(ν_:Frz) (bZ:Option Addr) (c3:Nat) (c0:Option Addr) (c4:Nat),μ.ext w0.heap.size ν_∧Ax w0 ν_∧e=(sv bZ res.1 c3)∧ArrM ν_ 14 api_Echo.cells bZ c3 res.1∧(ArrM ν_ 1 (fK .u8) c0 c4 res.2.b)∧St w0 (fz w0 ν_::blk cb0 135 #[sv c0 res.2.b c4,.bool res.2.bad]::T_) w):=by
 rw [Ef] at h
 have hext:=Frz.ext_refl w0.heap.size μ
 refine feW Tryz.func101 61 [(0,pb cb0),(1,iv p1)] hS fun a w hF hS=>?_
 refine qnB [] hF fun a hF=>?_
 refine qnB [(5,.slice none 0 0)] hF fun a hF=>?_
 refine esr<|qn 1 1 [(10,.agg #[iv 1,iv 0,iv 0,iv 0,iv 0,iv 0,iv 0,iv 0,iv 0,iv 0,iv 0,iv 0,iv 0,iv 0])] hF fun a hF=>?_
 refine SK.wi (qA 149 Xa (fun b4=>[(6,pb b4)]) hF hS fun b4 w a hF hS=>?_)
 refine SK.wi (qw 149 0 #[iv 1,iv 0,iv 0,iv 0,iv 0,iv 0,iv 0,iv 0,iv 0,iv 0,iv 0,iv 0,iv 0,iv 0] hF hS rfl fun w a hF hS=>wfn rfl ?_)
 have aH:=Frz.le_refl μ
 refine Dx (fun a w=>∃(bL:Int) (bM:Int) (bN:Int) (bO:Int) (bP:Int) (bQ:Int) (bR:Int) (bS:Int) (bT:Int) (bU:Int) (bV:Int) (bW:Int) (bX:Int) (bY:Int) (bC:(List Int)) (bG:Bool) (aR:(List api_Echo)) (ν273:Frz) (b6:Option Addr) (b8:Nat) (aT:Option Addr) (aY:Nat),Fr 61 [] [(5,sv aT aR aY)] a∧St w0 (arr 149 14 api_Echo.cells aT aR.length aY aR::blk b4 149 #[iv bL,iv bM,iv bR,iv bS,iv bT,iv bU,iv bV,iv bW,iv bX,iv bY,iv bN,iv bO,iv bP,iv bQ]::fz w0 ν273::blk cb0 135 #[sv b6 bC b8,.bool bG]::T_) w∧(ArrM ν273 1 (fK .u8) b6 b8 bC)∧(μ.le ν273)∧(μ.ext w0.heap.size ν273)∧(Ax w0 ν273)∧Bp bL bM bN bO bP bQ bR bS bT bU bV bW bX bY bC bG aR=some res) ?_ ?_
 ·skip
  refine wpIn_block ?_
  have c5:=Frz.le_refl μ
  replace hS:=hS.nilarr 149 14 api_Echo.cells
  refine Ck (fun n_ a w=>∃(a1:Int) (a2:Int) (a3:Int) (a4:Int) (a5:Int) (a6:Int) (a7:Int) (a8:Int) (a9:Int) (aA:Int) (aB:Int) (aC:Int) (aD:Int) (aE:Int) (aN:(List Int)) (aL:Bool) (aG:(List api_Echo)) (ν472:Frz) (aU:Option Addr) (aZ:Nat) (aO:Option Addr) (aP:Nat),Fr 61 [] [(0,pb cb0),(1,iv p1),(5,sv aO aG aP),(6,pb b4)] a∧St w0 (arr 149 14 api_Echo.cells aO aG.length aP aG::blk b4 149 #[iv a1,iv a2,iv a7,iv a8,iv a9,iv aA,iv aB,iv aC,iv aD,iv aE,iv a3,iv a4,iv a5,iv a6]::fz w0 ν472::blk cb0 135 #[sv aU aN aZ,.bool aL]::T_) w∧(ArrM ν472 1 (fK .u8) aU aZ aN)∧(μ.le ν472)∧(μ.ext w0.heap.size ν472)∧(Ax w0 ν472)∧Be F p1 n_ a1 a2 a3 a4 a5 a6 a7 a8 a9 aA aB aC aD aE aN aL aG=some res) F ⟨1,0,0,0,0,0,0,0,0,0,0,0,0,0,p0.b,p0.bad,[],μ,ad1,cap2,none,0,hF.sub kr,hS,hA3,c5,hext,hlow,h⟩ ?_
  clear c5
  rintro nk2 a w ⟨a1,a2,a3,a4,a5,a6,a7,a8,a9,aA,aB,aC,aD,aE,aN,aL,aG,ν472,aU,aZ,aO,aP,hF,hS,aM,aI,hext,hlow,h⟩
  rcases nk2 with _|nk2
  ·cases (show (none:Option ((List api_Echo)×ref12_reader))=some res from h)
  replace hA3:=hA3.mono aI
  replace aH:=aH.t aI
  obtain ⟨k2,hk2⟩:∃k,k=Be F p1 nk2:=⟨_,rfl⟩
  replace h:Dt F p1 k2 a1 a2 a3 a4 a5 a6 a7 a8 a9 aA aB aC aD aE aN aL aG=some res:=by rw [hk2];exact h
  rw [Dt] at h
  refine Am<|esr<|qn 5 5 [(15,.bool (decide ((ln aG)<p1)))] hF fun a hF=>?_
  rcases Bool.eq_false_or_eq_true ((decide ((ln aG)<p1))) with b3|b3
  ·replace h:=Gx h b3
   rw [b3] at hF
   refine qo 6 11 [(21,.bool (!aL))] hF (oGs [⟨15,true,true⟩] (oL 4 3 1 hS.i rfl rfl<|A1)<|A1) fun a hF=>wfn rfl ?_
   refine A8 hF h (fun hc h=>?_) fun hc h=>?_
   ·refine wK<|wpIn_block<|esr ?_
    obtain ⟨cK,cF,h⟩:=A0 h
    refine qo 5 5 [(22,pb cb0),(26,iv cK)] hF (oS 3 cF<|A1) fun a hF=>?_
    obtain ⟨aF,cH,h⟩:=A0 h
    replace hS:=hS.s3.s3
    refine SK.wi (qR (fun c6=>[(27,c6)]) hF (Mi F _ _ _ cH ν472 w0 w _ hlow aM hS) ?_)
    rintro c6 w a ⟨ν500,bE,bH,b5,hlow,rfl,bA,hS⟩ hF
    replace hext:=hext.t b5
    replace hA3:=hA3.mono b5.1
    replace aM:=aM.mono b5.1
    replace aH:=aH.t b5.1
    replace aI:=aI.t b5.1
    refine qn 1 7 [(7,iv aF.1)] hF fun a hF=>wfn rfl ?_
    refine Dx (fun a w=>∃(aJ:(List api_Echo)) (aV:Option Addr) (b0:Nat),Fr 61 [] [(0,pb cb0),(1,iv p1),(5,sv aV aJ b0),(6,pb b4)] a∧St w0 (arr 149 14 api_Echo.cells aV aJ.length b0 aJ::fz w0 ν500::blk cb0 135 #[sv bE aF.2.b bH,.bool aF.2.bad]::blk b4 149 #[iv a1,iv a2,iv a7,iv a8,iv a9,iv aA,iv aB,iv aC,iv aD,iv aE,iv a3,iv a4,iv a5,iv a6]::T_) w∧Eg F p1 a1 a2 a3 a4 a5 a6 a7 a8 a9 aA aB aC aD aE k2 aF aJ=some res) ?_ ?_
    ·skip
     refine qnB [(8,iv 0)] hF fun a hF=>?_
     refine wpIn_block<|Ck (fun n_ a w=>∃(aK:(List api_Echo)) (aS:Int) (aW:Option Addr) (b1:Nat),Fr 61 [] [(0,pb cb0),(1,iv p1),(5,sv aW aK b1),(6,pb b4),(7,iv aF.1),(8,iv aS)] a∧St w0 (arr 149 14 api_Echo.cells aW aK.length b1 aK::fz w0 ν500::blk cb0 135 #[sv bE aF.2.b bH,.bool aF.2.bad]::blk b4 149 #[iv a1,iv a2,iv a7,iv a8,iv a9,iv aA,iv aB,iv aC,iv aD,iv aE,iv a3,iv a4,iv a5,iv a6]::T_) w∧C4 F p1 a1 a2 a3 a4 a5 a6 a7 a8 a9 aA aB aC aD aE k2 aF n_ aK aS=some res) F ⟨aG,0,aO,aP,hF.sub kr,hS.s2,h⟩ ?_
     rintro nk4 a w ⟨aK,aS,aW,b1,hF,hS,h⟩
     rcases nk4 with _|nk4
     ·cases (show (none:Option ((List api_Echo)×ref12_reader))=some res from h)
     obtain ⟨k4,hk4⟩:∃k,k=C4 F p1 a1 a2 a3 a4 a5 a6 a7 a8 a9 aA aB aC aD aE k2 aF nk4:=⟨_,rfl⟩
     replace h:Fq F p1 a1 a2 a3 a4 a5 a6 a7 a8 a9 aA aB aC aD aE k2 aF k4 aK aS=some res:=by rw [hk4];exact h
     rw [Fq] at h
     refine Am<|qnB [(30,.bool (decide (aS<aF.1)))] hF fun a hF=>?_
     refine A8 hF h (fun hc h=>?_) fun hc h=>?_
     ·refine wK<|Am<|wpIn_block<|WI.region<|qo 2 2 [(33,sv aW aK b1),(34,.agg #[iv a1,iv a2,iv a7,iv a8,iv a9,iv aA,iv aB,iv aC,iv aD,iv aE,iv a3,iv a4,iv a5,iv a6])] hF (oN 149 3 0 14 hS.i rfl<|A1) fun a hF=>?_
      refine SK.wi (qL 149 87 1 [(api_Echo.mk a1 (api_Span.mk a2 a7) ((api_Span.mk a8 a9),(api_Span.mk aA aB)) aC (api_Span.mk aD aE) (api_Span.mk a3 a4) (api_Span.mk a5 a6))] (fun c2=>[(35,sb c2 1)]) api_Echo.cells_len hF hS fun c2 w a hF hS=>?_)
      obtain ⟨bD,cE,h⟩:=A0 h
      refine SK.wi (qP 87 87 1 (fun aX b2=>[(36,sv aX bD b2)]) hF hS (hS.arr (i:=0) rfl) cE rfl fun aX b2 w a hF hS=>?_)
      refine rn 1 5 [(0,pb cb0),(1,iv p1),(5,sv aX bD b2),(6,pb b4),(7,iv aF.1),(8,iv aS)] hF fun a hF=>WI.fin rfl (A9<|A3<|?_)
      refine WI.region ?_
      obtain ⟨c8,cG,h⟩:=A0 h
      refine ro 3 3 [(0,pb cb0),(1,iv p1),(5,sv aX bD b2),(6,pb b4),(7,iv aF.1),(8,iv c8)] hF (oA 3 cG<|A1) fun a hF=>wfn rfl ?_
      rw [hk4] at h
      exact ⟨nk4,Nat.lt_succ_self _,bD,c8,aX,b2,hF.sub kr,hS.d0,h⟩
     ·refine wpIn_exit (A5<|A5<|Ar<|A3 ?_)
      exact ⟨aK,aW,b1,hF.sub kr,hS,h⟩
    rintro a w ⟨aJ,aV,b0,hF,hS,h⟩
    rw [Eg] at h
    refine qnB [(40,.bool (decide ((ln aJ)<p1)))] hF fun a hF=>?_
    refine A8 hF h (fun hc h=>?_) fun hc h=>?_
    ·refine esr<|qn 1 1 [(41,pb cb0)] hF fun a hF=>?_
     obtain ⟨a0,cI,h⟩:=A0 h
     replace hS:=hS.s2.s2
     refine SK.wi (qR (fun c7=>[(42,c7)]) hF (Qu F _ _ cI ν500 w0 w _ hlow bA hS) ?_)
     rintro c7 w a ⟨ν534,c9,cA,aQ,hlow,rfl,cC,hS⟩ hF
     replace hext:=hext.t aQ
     replace hA3:=hA3.mono aQ.1
     replace aM:=aM.mono aQ.1
     replace bA:=bA.mono aQ.1
     replace aH:=aH.t aQ.1
     replace aI:=aI.t aQ.1
     refine SK.wi (qA 149 Xa (fun bF=>[(9,pb bF),(42,a0.1.ag)]) hF hS fun bF w a hF hS=>?_)
     refine SK.wi (qw 149 0 a0.1.ar hF hS rfl fun w a hF hS=>wfn rfl ?_)
     refine esr<|qo 12 12 [(52,.bool (bif a0.2.bad then true else (((a0.1.Kind:Int)==a1)&&((((a0.1.Power.Lo:Int)==a2)&&(((a0.1.Power.Hi:Int)==a7)&&true))&&(((((a0.1.Steps.1.Lo:Int)==a8)&&(((a0.1.Steps.1.Hi:Int)==a9)&&true))&&((((a0.1.Steps.2.Lo:Int)==aA)&&(((a0.1.Steps.2.Hi:Int)==aB)&&true))&&true))&&(((a0.1.Spread:Int)==aC)&&((((a0.1.Ratio.Lo:Int)==aD)&&(((a0.1.Ratio.Hi:Int)==aE)&&true))&&((((a0.1.Match.Lo:Int)==a3)&&(((a0.1.Match.Hi:Int)==a4)&&true))&&((((a0.1.Turn.Lo:Int)==a5)&&(((a0.1.Turn.Hi:Int)==a6)&&true))&&true))))))))),(54,.pointer (some ⟨cb0,1,none⟩))] hF (oL 4 2 1 hS.i rfl rfl<|oGs [⟨48,false,a0.2.bad⟩] (oN 149 0 0 14 hS.i rfl<|oN 149 4 0 14 hS.i rfl<|oX (.run [] (eqS .eql 149 a0.1.ar #[iv a1,iv a2,iv a7,iv a8,iv a9,iv aA,iv aB,iv aC,iv aD,iv aE,iv a3,iv a4,iv a5,iv a6]) (.bool (((a0.1.Kind:Int)==a1)&&((((a0.1.Power.Lo:Int)==a2)&&(((a0.1.Power.Hi:Int)==a7)&&true))&&(((((a0.1.Steps.1.Lo:Int)==a8)&&(((a0.1.Steps.1.Hi:Int)==a9)&&true))&&((((a0.1.Steps.2.Lo:Int)==aA)&&(((a0.1.Steps.2.Hi:Int)==aB)&&true))&&true))&&(((a0.1.Spread:Int)==aC)&&((((a0.1.Ratio.Lo:Int)==aD)&&(((a0.1.Ratio.Hi:Int)==aE)&&true))&&((((a0.1.Match.Lo:Int)==a3)&&(((a0.1.Match.Hi:Int)==a4)&&true))&&((((a0.1.Turn.Lo:Int)==a5)&&(((a0.1.Turn.Hi:Int)==a6)&&true))&&true))))))))) (La kr kr)<|A1)<|A1) fun a hF=>?_
     refine SK.wi (qs 4 2 1 (.bool (bif a0.2.bad then true else (((a0.1.Kind:Int)==a1)&&((((a0.1.Power.Lo:Int)==a2)&&(((a0.1.Power.Hi:Int)==a7)&&true))&&(((((a0.1.Steps.1.Lo:Int)==a8)&&(((a0.1.Steps.1.Hi:Int)==a9)&&true))&&((((a0.1.Steps.2.Lo:Int)==aA)&&(((a0.1.Steps.2.Hi:Int)==aB)&&true))&&true))&&(((a0.1.Spread:Int)==aC)&&((((a0.1.Ratio.Lo:Int)==aD)&&(((a0.1.Ratio.Hi:Int)==aE)&&true))&&((((a0.1.Match.Lo:Int)==a3)&&(((a0.1.Match.Hi:Int)==a4)&&true))&&((((a0.1.Turn.Lo:Int)==a5)&&(((a0.1.Turn.Hi:Int)==a6)&&true))&&true))))))))) hF hS rfl fun w a hF hS=>wfn rfl ?_)
     refine esr<|qo 2 2 [(55,sv aV aJ b0),(56,a0.1.ag)] hF (oN 149 0 0 14 hS.i rfl<|A1) fun a hF=>?_
     refine SK.wi (qL 149 87 1 [(api_Echo.mk a0.1.Kind (api_Span.mk a0.1.Power.Lo a0.1.Power.Hi) ((api_Span.mk a0.1.Steps.1.Lo a0.1.Steps.1.Hi),(api_Span.mk a0.1.Steps.2.Lo a0.1.Steps.2.Hi)) a0.1.Spread (api_Span.mk a0.1.Ratio.Lo a0.1.Ratio.Hi) (api_Span.mk a0.1.Match.Lo a0.1.Match.Hi) (api_Span.mk a0.1.Turn.Lo a0.1.Turn.Hi))] (fun c1=>[(57,sb c1 1)]) api_Echo.cells_len hF hS fun c1 w a hF hS=>?_)
     obtain ⟨bK,cD,h⟩:=A0 h
     refine SK.wi (qP 87 87 4 (fun b7 b9=>[(58,sv b7 bK b9)]) hF hS (hS.arr (i:=0) rfl) cD rfl fun b7 b9 w a hF hS=>?_)
     refine rn 1 5 [(0,pb cb0),(1,iv p1),(5,sv b7 bK b9),(6,pb b4),(9,pb bF)] hF fun a hF=>wfn rfl ?_
     refine WI.region<|qo 1 1 [(59,a0.1.ag)] hF (oN 149 1 0 14 hS.i rfl<|A1) fun a hF=>?_
     refine SK.wi (qw 149 5 a0.1.ar hF hS rfl fun w a hF hS=>WI.fin rfl (A9<|A3<|?_))
     rw [hk2] at h
     exact ⟨nk2,Nat.lt_succ_self _,a0.1.Kind,a0.1.Power.Lo,a0.1.Match.Lo,a0.1.Match.Hi,a0.1.Turn.Lo,a0.1.Turn.Hi,a0.1.Power.Hi,a0.1.Steps.1.Lo,a0.1.Steps.1.Hi,a0.1.Steps.2.Lo,a0.1.Steps.2.Hi,a0.1.Spread,a0.1.Ratio.Lo,a0.1.Ratio.Hi,a0.2.b,bif a0.2.bad then true else (((a0.1.Kind:Int)==a1)&&((((a0.1.Power.Lo:Int)==a2)&&(((a0.1.Power.Hi:Int)==a7)&&true))&&(((((a0.1.Steps.1.Lo:Int)==a8)&&(((a0.1.Steps.1.Hi:Int)==a9)&&true))&&((((a0.1.Steps.2.Lo:Int)==aA)&&(((a0.1.Steps.2.Hi:Int)==aB)&&true))&&true))&&(((a0.1.Spread:Int)==aC)&&((((a0.1.Ratio.Lo:Int)==aD)&&(((a0.1.Ratio.Hi:Int)==aE)&&true))&&((((a0.1.Match.Lo:Int)==a3)&&(((a0.1.Match.Hi:Int)==a4)&&true))&&((((a0.1.Turn.Lo:Int)==a5)&&(((a0.1.Turn.Hi:Int)==a6)&&true))&&true))))))),bK,ν534,c9,cA,b7,b9,hF.sub kr,hS.d1.d0.s3.s3,cC,aI,hext,hlow,h⟩
    ·refine wpIn_skip (A9<|A3<|?_)
     rw [hk2] at h
     exact ⟨nk2,Nat.lt_succ_self _,a1,a2,a3,a4,a5,a6,a7,a8,a9,aA,aB,aC,aD,aE,aF.2.b,aF.2.bad,aJ,ν500,bE,bH,aV,b0,hF.sub kr,hS.s3.s1,bA,aI,hext,hlow,h⟩
   ·refine wpIn_exit (A5<|A5<|Ar<|A3 ?_)
    exact ⟨a1,a2,a3,a4,a5,a6,a7,a8,a9,aA,aB,aC,aD,aE,aN,aL,aG,ν472,aU,aZ,aO,aP,hF.sub kr,hS,aM,aH,hext,hlow,h⟩
  ·replace h:=Gw h b3
   rw [b3] at hF
   refine qk 6 [(15,.bool false),(16,undef)] hF fun a hF=>?_
   refine qk 7 [(17,undef)] hF fun a hF=>?_
   refine qk 8 [(18,undef)] hF fun a hF=>?_
   refine qk 9 [(19,undef)] hF fun a hF=>?_
   refine qk 10 [(20,undef)] hF fun a hF=>?_
   refine qn 1 11 [(21,.bool false)] hF fun a hF=>wfn rfl ?_
   refine wpIn_cond_false (hF.get rfl) ?_
   refine wpIn_exit (A5<|A5<|Ar<|A3 ?_)
   exact ⟨a1,a2,a3,a4,a5,a6,a7,a8,a9,aA,aB,aC,aD,aE,aN,aL,aG,ν472,aU,aZ,aO,aP,hF.sub kr,hS,aM,aH,hext,hlow,h⟩
 clear aH
 rintro a w ⟨bL,bM,bN,bO,bP,bQ,bR,bS,bT,bU,bV,bW,bX,bY,bC,bG,aR,ν273,b6,b8,aT,aY,hF,hS,bI,bJ,hext,hlow,h⟩
 replace hA3:=hA3.mono bJ
 rw [Bp] at h
 refine rnB [(4,sv aT aR aY)] hF fun a hF=>?_
 refine wpIn_ret (A7 [.tmp 4] [_] hF rfl ⟨rfl,trivial⟩ ?_)
 obtain ⟨ν297,bB,hlow,hS,cJ⟩:=hS.freeze (i:=2) (j:=0) rfl rfl (by decide) hlow
 replace hA3:=hA3.mono bB.1
 replace bI:=bI.mono bB.1
 replace bJ:=bJ.t bB.1
 replace hext:=hext.t bB
 have cB:=ArrM.of_arr cJ
 obtain rfl:=Ae h
 replace hS:=hS.d0
 exact ⟨_,rfl,ν297,aT,aY,b6,b8,hext,hlow,rfl,cB,bI,hS⟩
theorem Uj (F:Nat) (p0:(List api_Echo)) (res:(List Int)) (h:K8 F p0=some res) (μ:Frz) (w0:World) (hm:FrzAt μ w0) {ad1:Option Addr} {cap2:Nat} (hA3:ArrM μ 14 api_Echo.cells ad1 cap2 p0):Ba Tryz.prog 107 #[sv ad1 p0 cap2] w0 (fun e w=>∃zad0 zcap0,e=(sv zad0 res zcap0)∧St w0 [arr 5 1 (fK .u8) zad0 res.length zcap0 res] w):=by
 obtain ⟨hlow,hS⟩:=hm.init
 have hext:=Frz.ext_refl w0.heap.size μ
 rw [K8] at h
 refine feW Tryz.func107 55 [(0,sv ad1 p0 cap2)] hS fun a w hF hS=>?_
 refine qnB [] hF fun a hF=>?_
 refine qnB [(3,.slice none 0 0)] hF fun a hF=>?_
 refine esr<|qn 1 1 [(7,.agg #[iv 1,iv 0,iv 0,iv 0,iv 0,iv 0,iv 0,iv 0,iv 0,iv 0,iv 0,iv 0,iv 0,iv 0])] hF fun a hF=>?_
 refine SK.wi (qA 149 Xa (fun b4=>[(4,pb b4)]) hF hS fun b4 w a hF hS=>?_)
 refine SK.wi (qw 149 0 #[iv 1,iv 0,iv 0,iv 0,iv 0,iv 0,iv 0,iv 0,iv 0,iv 0,iv 0,iv 0,iv 0,iv 0] hF hS rfl fun w a hF hS=>wfn rfl ?_)
 refine Dx (fun a w=>∃(aY:Int) (aZ:Int) (b0:Int) (b1:Int) (b2:Int) (b3:Int) (b5:Int) (b6:Int) (b7:Int) (b8:Int) (b9:Int) (bA:Int) (bB:Int) (bC:Int) (aM:(List Int)) (aU:Option Addr) (aV:Nat),Fr 55 [] [(3,sv aU aM aV)] a∧St w0 [arr 5 1 (fK .u8) aU aM.length aV aM,blk b4 149 #[iv aY,iv aZ,iv b5,iv b6,iv b7,iv b8,iv b9,iv bA,iv bB,iv bC,iv b0,iv b1,iv b2,iv b3],fz w0 μ] w∧Jb aY aZ b0 b1 b2 b3 b5 b6 b7 b8 b9 bA bB bC aM=some res) ?_ ?_
 ·skip
  refine qnB [(5,iv 0)] hF fun a hF=>?_
  refine wpIn_block ?_
  replace hS:=hS.nilarr 5 1 (fK .u8)
  refine Ck (fun n_ a w=>∃(a3:Int) (a4:Int) (a5:Int) (a6:Int) (a7:Int) (a8:Int) (a9:Int) (aA:Int) (aB:Int) (aC:Int) (aD:Int) (aE:Int) (aF:Int) (aG:Int) (a1:(List Int)) (aH:Int) (aI:Option Addr) (aJ:Nat),Fr 55 [] [(0,sv ad1 p0 cap2),(3,sv aI a1 aJ),(4,pb b4),(5,iv aH)] a∧St w0 [arr 5 1 (fK .u8) aI a1.length aJ a1,blk b4 149 #[iv a3,iv a4,iv a9,iv aA,iv aB,iv aC,iv aD,iv aE,iv aF,iv aG,iv a5,iv a6,iv a7,iv a8],fz w0 μ] w∧Fy F p0 n_ a3 a4 a5 a6 a7 a8 a9 aA aB aC aD aE aF aG a1 aH=some res) F ⟨1,0,0,0,0,0,0,0,0,0,0,0,0,0,[],0,none,0,hF.sub kr,St.pick [0,1,2] (by decide) hS,h⟩ ?_
  rintro nk2 a w ⟨a3,a4,a5,a6,a7,a8,a9,aA,aB,aC,aD,aE,aF,aG,a1,aH,aI,aJ,hF,hS,h⟩
  rcases nk2 with _|nk2
  ·cases (show (none:Option (List Int))=some res from h)
  obtain ⟨k2,hk2⟩:∃k,k=Fy F p0 nk2:=⟨_,rfl⟩
  replace h:Ja F p0 k2 a3 a4 a5 a6 a7 a8 a9 aA aB aC aD aE aF aG a1 aH=some res:=by rw [hk2];exact h
  rw [Ja] at h
  refine Am<|qnB [(11,.bool (decide (aH<(ln p0))))] hF fun a hF=>?_
  refine A8 hF h (fun hc h=>?_) fun hc h=>?_
  ·refine wK<|wpIn_block<|qnB [(6,iv 0)] hF fun a hF=>?_
   refine Dx (fun a w=>∃(aR:Int),Fr 55 [] [(0,sv ad1 p0 cap2),(3,sv aI a1 aJ),(4,pb b4),(5,iv aH),(6,iv aR)] a∧St w0 [arr 5 1 (fK .u8) aI a1.length aJ a1,blk b4 149 #[iv a3,iv a4,iv a9,iv aA,iv aB,iv aC,iv aD,iv aE,iv aF,iv aG,iv a5,iv a6,iv a7,iv a8],fz w0 μ] w∧Jc F p0 a3 a4 a5 a6 a7 a8 a9 aA aB aC aD aE aF aG a1 aH k2 aR=some res) ?_ ?_
   ·skip
    refine wpIn_block<|Ck (fun n_ a w=>∃(aN:Int),Fr 55 [] [(0,sv ad1 p0 cap2),(3,sv aI a1 aJ),(4,pb b4),(5,iv aH),(6,iv aN)] a∧St w0 [arr 5 1 (fK .u8) aI a1.length aJ a1,blk b4 149 #[iv a3,iv a4,iv a9,iv aA,iv aB,iv aC,iv aD,iv aE,iv aF,iv aG,iv a5,iv a6,iv a7,iv a8],fz w0 μ] w∧Gu F p0 a3 a4 a5 a6 a7 a8 a9 aA aB aC aD aE aF aG a1 aH k2 n_ aN=some res) F ⟨0,hF.sub kr,St.pick [0,1,2] (by decide) hS,h⟩ ?_
    rintro nk4 a w ⟨aN,hF,hS,h⟩
    rcases nk4 with _|nk4
    ·cases (show (none:Option (List Int))=some res from h)
    obtain ⟨k4,hk4⟩:∃k,k=Gu F p0 a3 a4 a5 a6 a7 a8 a9 aA aB aC aD aE aF aG a1 aH k2 nk4:=⟨_,rfl⟩
    replace h:Kq F p0 a3 a4 a5 a6 a7 a8 a9 aA aB aC aD aE aF aG a1 aH k2 k4 aN=some res:=by rw [hk4];exact h
    rw [Kq] at h
    refine Am<|Am ?_
    obtain ⟨aS,bO,h⟩:=A0 h
    obtain ⟨aT,bP,h⟩:=A0 h
    obtain ⟨a0,bF,h⟩:=A0 h
    refine qD 16 [(27,.bool (bif (decide (aS<(ln p0))) then (((a0.Kind:Int)==a3)&&((((a0.Power.Lo:Int)==a4)&&(((a0.Power.Hi:Int)==a9)&&true))&&(((((a0.Steps.1.Lo:Int)==aA)&&(((a0.Steps.1.Hi:Int)==aB)&&true))&&((((a0.Steps.2.Lo:Int)==aC)&&(((a0.Steps.2.Hi:Int)==aD)&&true))&&true))&&(((a0.Spread:Int)==aE)&&((((a0.Ratio.Lo:Int)==aF)&&(((a0.Ratio.Hi:Int)==aG)&&true))&&((((a0.Match.Lo:Int)==a5)&&(((a0.Match.Hi:Int)==a6)&&true))&&((((a0.Turn.Lo:Int)==a7)&&(((a0.Turn.Hi:Int)==a8)&&true))&&true))))))) else false))] hF (oA 3 bO<|oX (.run [⟨18,true,(decide (aS<(ln p0)))⟩] (binOp .add 3 (iv aH) (iv aN)) (iv aT)) (Ve (fun hk=>Bt bP hk))<|oX (.run [⟨18,true,(decide (aS<(ln p0)))⟩] (Instr.indexAt 87 (sv ad1 p0 cap2) (iv aT)) (.pointer (some (Bl ad1 aT 14)))) (J0 (hA3 _ (hS.frz (i:=2) rfl hlow)) kr (fun hk=>Bt bF hk))<|oX (.run [⟨18,true,(decide (aS<(ln p0)))⟩] (Instr.loadAt 149 (.pointer (some (Bl ad1 aT 14)))) (a0.ag)) (Tv (m:=14) (i:=aT) (us:=a0.cells) 0 api_Echo.cells_len (fun _ hd=>(hA3 _ ((hS.later hd).frz (i:=2) rfl hlow))) kr (fun hk=>Bt bF hk) ⟨rfl,rfl⟩)<|oGs [⟨18,true,(decide (aS<(ln p0)))⟩] (oN 149 1 0 14 hS.e rfl<|oX (.run [] (eqS .eql 149 a0.ar #[iv a3,iv a4,iv a9,iv aA,iv aB,iv aC,iv aD,iv aE,iv aF,iv aG,iv a5,iv a6,iv a7,iv a8]) (.bool (((a0.Kind:Int)==a3)&&((((a0.Power.Lo:Int)==a4)&&(((a0.Power.Hi:Int)==a9)&&true))&&(((((a0.Steps.1.Lo:Int)==aA)&&(((a0.Steps.1.Hi:Int)==aB)&&true))&&((((a0.Steps.2.Lo:Int)==aC)&&(((a0.Steps.2.Hi:Int)==aD)&&true))&&true))&&(((a0.Spread:Int)==aE)&&((((a0.Ratio.Lo:Int)==aF)&&(((a0.Ratio.Hi:Int)==aG)&&true))&&((((a0.Match.Lo:Int)==a5)&&(((a0.Match.Hi:Int)==a6)&&true))&&((((a0.Turn.Lo:Int)==a7)&&(((a0.Turn.Hi:Int)==a8)&&true))&&true))))))))) (La kr kr)<|A1)<|A1) fun a w hF hx=>?_
    replace hS:=hS.later hx
    refine wfn rfl ?_
    refine A8 hF h (fun hc h=>?_) fun hc h=>?_
    ·refine wK<|wpIn_block<|WI.region ?_
     obtain ⟨bJ,bQ,h⟩:=A0 h
     refine ro 3 3 [(0,sv ad1 p0 cap2),(3,sv aI a1 aJ),(4,pb b4),(5,iv aH),(6,iv bJ)] hF (oA 3 bQ<|A1) fun a hF=>WI.fin rfl (A9<|A3<|?_)
     rw [hk4] at h
     exact ⟨nk4,Nat.lt_succ_self _,bJ,hF.sub kr,St.pick [0,1,2] (by decide) hS,h⟩
    ·refine wpIn_exit (A5<|A5<|Ar<|A3 ?_)
     exact ⟨aN,hF.sub kr,St.pick [0,1,2] (by decide) hS,h⟩
   rintro a w ⟨aR,hF,hS,h⟩
   rw [Jc] at h
   refine esr<|qn 2 2 [(30,sv aI a1 aJ),(31,iv aR)] hF fun a hF=>?_
   obtain ⟨bY,bR,h⟩:=A0 h
   refine SK.wi (qR (fun bG=>[(32,bG)]) hF (At F _ _ bR (B0 w) w (A4 w)) ?_)
   rintro bG w a ⟨bU,bW,rfl,hQ⟩ hF
   replace hS:=hS.madeL hQ
   obtain ⟨aQ,bK,h⟩:=A0 h
   refine SK.wi (qP 22 22 1 (fun aK aL=>[(33,sv aK aQ aL)]) hF hS (hS.arr (i:=0) rfl) bK rfl fun aK aL w a hF hS=>?_)
   refine rn 1 5 [(0,sv ad1 p0 cap2),(3,sv aK aQ aL),(4,pb b4),(5,iv aH),(6,iv aR)] hF fun a hF=>wfn rfl ?_
   refine esr ?_
   obtain ⟨aX,bM,h⟩:=A0 h
   refine ro 4 4 [(0,sv ad1 p0 cap2),(3,sv aK aQ aL),(4,pb b4),(5,iv aX)] hF (oA 3 bM<|A1) fun a hF=>wfn rfl ?_
   refine qnB [(40,.bool (decide (aX<(ln p0))))] hF fun a hF=>?_
   refine A8 hF h (fun hc h=>?_) fun hc h=>?_
   ·refine esr ?_
    obtain ⟨bT,bD,h⟩:=A0 h
    refine qo 5 5 [(41,sv aK aQ aL),(45,bT.ag)] hF (oI 87 (hA3 _ (hS.frz (i:=3) rfl hlow)) bD<|oG 149 0 14 api_Echo.cells_len (fun _ hd=>(hA3 _ ((hS.at_ hd).frz (i:=3) rfl hlow))) bD<|A1) fun a hF=>?_
    obtain ⟨bZ,bS,h⟩:=A0 h
    refine SK.wi (qR (fun bH=>[(46,bH)]) hF (W4 F _ _ bS (B0 w) w (A4 w)) ?_)
    rintro bH w a ⟨bV,bX,rfl,hQ⟩ hF
    replace hS:=hS.madeL hQ
    obtain ⟨aW,bL,h⟩:=A0 h
    refine SK.wi (qP 22 22 2 (fun aO aP=>[(47,sv aO aW aP)]) hF hS (hS.arr (i:=0) rfl) bL rfl fun aO aP w a hF hS=>?_)
    refine rn 1 8 [(0,sv ad1 p0 cap2),(3,sv aO aW aP),(4,pb b4),(5,iv aX)] hF fun a hF=>wfn rfl ?_
    refine esr ?_
    obtain ⟨a2,bE,h⟩:=A0 h
    refine qo 4 4 [(51,a2.ag)] hF (oI 87 (hA3 _ (hS.frz (i:=4) rfl hlow)) bE<|oG 149 0 14 api_Echo.cells_len (fun _ hd=>(hA3 _ ((hS.at_ hd).frz (i:=4) rfl hlow))) bE<|A1) fun a hF=>?_
    refine SK.wi (qw 149 3 a2.ar hF hS rfl fun w a hF hS=>wfn rfl ?_)
    refine WI.region ?_
    obtain ⟨bI,bN,h⟩:=A0 h
    refine ro 3 3 [(0,sv ad1 p0 cap2),(3,sv aO aW aP),(4,pb b4),(5,iv bI)] hF (oA 3 bN<|A1) fun a hF=>WI.fin rfl (A9<|A3<|?_)
    rw [hk2] at h
    exact ⟨nk2,Nat.lt_succ_self _,a2.Kind,a2.Power.Lo,a2.Match.Lo,a2.Match.Hi,a2.Turn.Lo,a2.Turn.Hi,a2.Power.Hi,a2.Steps.1.Lo,a2.Steps.1.Hi,a2.Steps.2.Lo,a2.Steps.2.Hi,a2.Spread,a2.Ratio.Lo,a2.Ratio.Hi,aW,bI,aO,aP,hF.sub kr,St.pick [2,3,4] (by decide) hS,h⟩
   ·refine wpIn_skip (A9<|A3<|?_)
    rw [hk2] at h
    exact ⟨nk2,Nat.lt_succ_self _,a3,a4,a5,a6,a7,a8,a9,aA,aB,aC,aD,aE,aF,aG,aQ,aX,aK,aL,hF.sub kr,St.pick [1,2,3] (by decide) hS,h⟩
  ·refine wpIn_exit (A5<|A5<|Ar<|A3 ?_)
   exact ⟨a3,a4,a5,a6,a7,a8,a9,aA,aB,aC,aD,aE,aF,aG,a1,aI,aJ,hF.sub kr,St.pick [0,1,2] (by decide) hS,h⟩
 rintro a w ⟨aY,aZ,b0,b1,b2,b3,b5,b6,b7,b8,b9,bA,bB,bC,aM,aU,aV,hF,hS,h⟩
 rw [Jb] at h
 refine rnB [(2,sv aU aM aV)] hF fun a hF=>?_
 refine wpIn_ret (A7 [.tmp 2] [_] hF rfl ⟨rfl,trivial⟩ ?_)
 obtain rfl:=Ae h
 exact ⟨_,rfl,_,_,rfl,St.pick [0] (by decide) hS⟩
end Go.Proofs.YtifbomimeodibaaGreat
