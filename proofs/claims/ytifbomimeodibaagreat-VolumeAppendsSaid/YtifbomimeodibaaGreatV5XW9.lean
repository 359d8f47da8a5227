import Derived.Test.YtifbomimeodibaaGreatV5XD
import Derived.Test.YtifbomimeodibaaGreatProg
import Derived.Test.YtifbomimeodibaaGreatV5XW1
import Derived.Test.YtifbomimeodibaaGreatV5XW2
import Derived.Test.YtifbomimeodibaaGreatV5XW5
import Derived.Test.YtifbomimeodibaaGreatV5XW6
import Derived.Test.YtifbomimeodibaaGreatV5XW7
namespace Go.Proofs.YtifbomimeodibaaGreat
open Go Go.RowKit Go.Eng
set_option maxRecDepth 10000
set_option maxHeartbeats 4000000
set_option linter.unusedVariables false
set_option linter.unusedSimpArgs false
theorem Rx (F:Nat) (p0:api_Sweep) (res:Int) (h:Bx F p0=some res) (μ:Frz) (w0:World) (hm:FrzAt μ w0) {ad1:Option Addr} {cap2:Nat} {css3:List (List Value)} (hA4:ArrQ μ 1 Rp87 ad1 cap2 css3 p0.Rays):Calls Tryz.prog 167 #[.agg (p0.ax ad1 cap2)] w0 (fun e w=>e=.returned (iv res)∧Ext w0 w):=by
 obtain ⟨hlow,hS⟩:=hm.init
 have hext:=Frz.ext_refl w0.heap.size μ
 rw [Bx] at h
 refine feW Tryz.func167 69 [(0,.agg (p0.ax ad1 cap2))] hS fun a w hF hS=>?_
 refine esr<|SK.wi (qBa 41 (p0.ax ad1 cap2) (fun b5=>[(1,pb b5)]) hF hS fun b5 w a hF hS=>?_)
 refine qn 1 2 [] hF fun a hF=>wfn rfl ?_
 refine Am<|esr ?_
 obtain ⟨y6,hy6,h⟩:=A0 h
 refine qx 4 4 [(3,iv y6)] hF (oN 38 0 0 8 hS.e rfl<|oC (fun w2 hd=>Pa F p0.Site _ hy6 _ w2 (A4 w2))<|A1) fun a w hF hx=>?_
 replace hS:=hS.later hx
 refine wfn rfl ?_
 refine qnB [(15,.bool (y6 != 0))] hF fun a hF=>?_
 refine A8 hF h (fun hc h=>?_) fun hc h=>?_
 ·refine rnB [(2,iv y6)] hF fun a hF=>?_
  refine wpIn_ret (A2<|A7 [.tmp 2] [_] hF rfl ⟨rfl,trivial⟩ ?_)
  obtain rfl:=Ae h
  exact ⟨rfl,hS.ext⟩
 ·refine wK<|Am<|esr<|qx 10 10 [(26,.bool (bif (!(Aw p0.Tilt 0 256)) then true else (!(Aw p0.Time 0 4294967296))))] hF (oL 3 0 8 hS.e rfl rfl<|oC (fun w2 hd=>J8 p0.Tilt 0 256 _ rfl _ w2 (A4 w2))<|oGs [⟨21,false,(!(Aw p0.Tilt 0 256))⟩] (oL 3 0 9 hS.e rfl rfl<|oC (fun w2 hd=>J8 p0.Time 0 4294967296 _ rfl _ w2 (A4 w2))<|A1)<|A1) fun a w hF hx=>?_
  replace hS:=hS.later hx
  refine wfn rfl ?_
  refine A8 hF h (fun hc h=>?_) fun hc h=>?_
  ·refine rnB [(2,iv 3)] hF fun a hF=>?_
   refine wpIn_ret (A2<|A7 [.tmp 2] [_] hF rfl ⟨rfl,trivial⟩ ?_)
   obtain rfl:=Ae h
   exact ⟨rfl,hS.ext⟩
  ·refine wK<|Am<|esr ?_
   obtain ⟨x7,hx7,h⟩:=A0 h
   refine qo 8 8 [(34,.bool ((ln p0.Rays) != x7))] hF (oL 39 0 10 hS.i rfl rfl<|oL 3 0 4 hS.i rfl rfl<|oM 3 hx7<|A1) fun a hF=>wfn rfl ?_
   refine A8 hF h (fun hc h=>?_) fun hc h=>?_
   ·refine rnB [(2,iv 11)] hF fun a hF=>?_
    refine wpIn_ret (A2<|A7 [.tmp 2] [_] hF rfl ⟨rfl,trivial⟩ ?_)
    obtain rfl:=Ae h
    exact ⟨rfl,hS.ext⟩
   ·refine wK<|Dx (fun a w=>Fr 69 [] [(1,pb b5)] a∧St w0 [blk b5 41 (p0.ax ad1 cap2),fz w0 μ] w∧G6 F p0=some res) ?_ ?_
    ·skip
     refine qoB [(36,sv ad1 p0.Rays cap2),(37,iv (ln p0.Rays)),(38,iv 0)] hF (oL 39 0 10 hS.i rfl rfl<|A1) fun a hF=>?_
     refine wpIn_block<|Ck (fun n_ a w=>∃(a4:Int),Fr 69 [] [(1,pb b5),(36,sv ad1 p0.Rays cap2),(37,iv (ln p0.Rays)),(38,iv a4)] a∧St w0 [blk b5 41 (p0.ax ad1 cap2),fz w0 μ] w∧De F p0 n_ a4=some res) F ⟨0,hF.sub kr,St.pick [0,1] (by decide) hS,h⟩ ?_
     rintro nk6 a w ⟨a4,hF,hS,h⟩
     rcases nk6 with _|nk6
     ·cases (show (none:Option Int)=some res from h)
     obtain ⟨k6,hk6⟩:∃k,k=De F p0 nk6:=⟨_,rfl⟩
     replace h:G5 F p0 k6 a4=some res:=by rw [hk6];exact h
     rw [G5] at h
     refine qnB [(39,.bool (decide (a4<(ln p0.Rays))))] hF fun a hF=>?_
     refine Am<|A8 hF h (fun hc h=>?_) fun hc h=>?_
     ·refine wK<|Am<|wpIn_block<|esr ?_
      obtain ⟨aD,aM,h⟩:=A0 h
      obtain ⟨aS,aB,aK⟩:=Cw hA4.2 aM
      obtain ⟨aH,aI,rfl,aT⟩:=aK
      refine qo 3 3 [(5,sv aH aD aI)] hF (oI 39 (hA4.at (hS.frz (i:=1) rfl hlow)) aB<|oE 87 0 (Dg 1) (fun _ hd=>(hA4.at ((hS.at_ hd).frz (i:=1) rfl hlow))) aB rfl<|A1) fun a hF=>wfn rfl ?_
      refine qoB [(47,.bool ((ln aD) != p0.Site.Gates))] hF (oL 3 0 5 hS.i rfl rfl<|A1) fun a hF=>?_
      refine A8 hF h (fun hc h=>?_) fun hc h=>?_
      ·refine rnB [(2,iv 11)] hF fun a hF=>?_
       refine wpIn_ret (Ab<|A2<|A2<|Ab<|A2<|A7 [.tmp 2] [_] hF rfl ⟨rfl,trivial⟩ ?_)
       obtain rfl:=Ae h
       exact ⟨rfl,hS.ext⟩
      ·refine wpIn_skip (A9<|A3<|?_)
       refine WI.region ?_
       obtain ⟨aG,aP,h⟩:=A0 h
       refine ro 2 2 [(1,pb b5),(36,sv ad1 p0.Rays cap2),(37,iv (ln p0.Rays)),(38,iv aG)] hF (oA 3 aP<|A1) fun a hF=>wfn rfl ?_
       rw [hk6] at h
       exact ⟨nk6,Nat.lt_succ_self _,aG,hF.sub kr,St.pick [0,1] (by decide) hS,h⟩
     ·refine wpIn_exit (A5<|A5<|Ar<|A3 ?_)
      exact ⟨hF.sub kr,St.pick [0,1] (by decide) hS,h⟩
    rintro a w ⟨hF,hS,h⟩
    rw [G6] at h
    refine Dx (fun a w=>Fr 69 [] [] a∧St w0 [blk b5 41 (p0.ax ad1 cap2),fz w0 μ] w∧He=some res) ?_ ?_
    ·skip
     refine roB [(50,sv ad1 p0.Rays cap2),(51,iv (ln p0.Rays)),(52,iv 0)] hF (oL 39 0 10 hS.i rfl rfl<|A1) fun a hF=>?_
     refine wpIn_block<|Ck (fun n_ a w=>∃(a1:Int),Fr 69 [] [(50,sv ad1 p0.Rays cap2),(51,iv (ln p0.Rays)),(52,iv a1)] a∧St w0 [blk b5 41 (p0.ax ad1 cap2),fz w0 μ] w∧Co F p0 n_ a1=some res) F ⟨0,hF.sub kr,St.pick [0,1] (by decide) hS,h⟩ ?_
     rintro nk3 a w ⟨a1,hF,hS,h⟩
     rcases nk3 with _|nk3
     ·cases (show (none:Option Int)=some res from h)
     obtain ⟨k3,hk3⟩:∃k,k=Co F p0 nk3:=⟨_,rfl⟩
     replace h:G3 F p0 k3 a1=some res:=by rw [hk3];exact h
     rw [G3] at h
     refine qnB [(53,.bool (decide (a1<(ln p0.Rays))))] hF fun a hF=>?_
     refine Am<|A8 hF h (fun hc h=>?_) fun hc h=>?_
     ·refine wK<|Dx (fun a w=>Fr 69 [] [(50,sv ad1 p0.Rays cap2),(51,iv (ln p0.Rays)),(52,iv a1)] a∧St w0 [blk b5 41 (p0.ax ad1 cap2),fz w0 μ] w∧Ew a1 k3=some res) ?_ ?_
      ·skip
       refine wpIn_block<|esr ?_
       obtain ⟨a2,aL,h⟩:=A0 h
       obtain ⟨aR,aA,aJ⟩:=Cw hA4.2 aL
       obtain ⟨a5,a6,rfl,a9⟩:=aJ
       refine qo 3 3 [(7,sv a5 a2 a6)] hF (oI 39 (hA4.at (hS.frz (i:=1) rfl hlow)) aA<|oE 87 0 (Dg 1) (fun _ hd=>(hA4.at ((hS.at_ hd).frz (i:=1) rfl hlow))) aA rfl<|A1) fun a hF=>wfn rfl ?_
       refine qnB [(56,sv a5 a2 a6),(57,iv (ln a2)),(58,iv 0)] hF fun a hF=>?_
       refine wpIn_block<|Ck (fun n_ a w=>∃(a3:Int),Fr 69 [] [(50,sv ad1 p0.Rays cap2),(51,iv (ln p0.Rays)),(52,iv a1),(56,sv a5 a2 a6),(57,iv (ln a2)),(58,iv a3)] a∧St w0 [blk b5 41 (p0.ax ad1 cap2),fz w0 μ] w∧Cp F a1 k3 a2 n_ a3=some res) F ⟨0,hF.sub kr,St.pick [0,1] (by decide) hS,h⟩ ?_
       rintro nk5 a w ⟨a3,hF,hS,h⟩
       rcases nk5 with _|nk5
       ·cases (show (none:Option Int)=some res from h)
       obtain ⟨k5,hk5⟩:∃k,k=Cp F a1 k3 a2 nk5:=⟨_,rfl⟩
       replace h:G4 F a1 k3 a2 k5 a3=some res:=by rw [hk5];exact h
       rw [G4] at h
       refine qnB [(59,.bool (decide (a3<(ln a2))))] hF fun a hF=>?_
       refine Am<|A8 hF h (fun hc h=>?_) fun hc h=>?_
       ·refine wK<|Am<|wpIn_block<|esr ?_
        obtain ⟨a0,aC,h⟩:=A0 h
        refine qo 2 2 [(61,a0.ag)] hF (oI 87 (a9 _ (hS.frz (i:=1) rfl hlow)) aC<|oG 149 0 14 api_Echo.cells_len (fun _ hd=>(a9 _ ((hS.at_ hd).frz (i:=1) rfl hlow))) aC<|A1) fun a hF=>?_
        refine SK.wi (qA 149 Xa (fun a8=>[(9,pb a8)]) hF hS fun a8 w a hF hS=>?_)
        refine SK.wi (qw 149 0 a0.ar hF hS rfl fun w a hF hS=>wfn rfl ?_)
        refine esr ?_
        obtain ⟨a7,aQ,h⟩:=A0 h
        refine qx 3 3 [(10,iv a7)] hF (oN 149 0 0 14 hS.e rfl<|oC (fun w2 hd=>Sj F (api_Echo.mk a0.Kind a0.Power ((api_Span.mk a0.Steps.1.Lo a0.Steps.1.Hi),(api_Span.mk a0.Steps.2.Lo a0.Steps.2.Hi)) a0.Spread a0.Ratio a0.Match a0.Turn) _ aQ _ w2 (A4 w2))<|A1) fun a w hF hx=>?_
        replace hS:=hS.later hx
        refine wfn rfl ?_
        refine qnB [(65,.bool (a7 != 0))] hF fun a hF=>?_
        refine A8 hF h (fun hc h=>?_) fun hc h=>?_
        ·refine rnB [(2,iv a7)] hF fun a hF=>?_
         refine wpIn_ret (Ab<|A2<|A2<|Ab<|Ab<|A2<|A2<|Ab<|A2<|A7 [.tmp 2] [_] hF rfl ⟨rfl,trivial⟩ ?_)
         obtain rfl:=Ae h
         exact ⟨rfl,hS.ext⟩
        ·refine wpIn_skip (A9<|A3<|?_)
         refine WI.region ?_
         obtain ⟨aF,aO,h⟩:=A0 h
         refine ro 2 2 [(50,sv ad1 p0.Rays cap2),(51,iv (ln p0.Rays)),(52,iv a1),(56,sv a5 a2 a6),(57,iv (ln a2)),(58,iv aF)] hF (oA 3 aO<|A1) fun a hF=>wfn rfl ?_
         rw [hk5] at h
         exact ⟨nk5,Nat.lt_succ_self _,aF,hF.sub kr,St.pick [1,2] (by decide) hS,h⟩
       ·refine wpIn_exit (A5<|A5<|Ar<|A9<|A3<|?_)
        exact ⟨hF.sub kr,St.pick [0,1] (by decide) hS,h⟩
      rintro a w ⟨hF,hS,h⟩
      rw [Ew] at h
      refine WI.region ?_
      obtain ⟨aE,aN,h⟩:=A0 h
      refine ro 2 2 [(50,sv ad1 p0.Rays cap2),(51,iv (ln p0.Rays)),(52,iv aE)] hF (oA 3 aN<|A1) fun a hF=>wfn rfl ?_
      rw [hk3] at h
      exact ⟨nk3,Nat.lt_succ_self _,aE,hF.sub kr,St.pick [0,1] (by decide) hS,h⟩
     ·refine wpIn_exit (A5<|A5<|Ar<|A3 ?_)
      exact ⟨hF.sub kr,St.pick [0,1] (by decide) hS,h⟩
    rintro a w ⟨hF,hS,h⟩
    rw [He] at h
    refine rnB [(2,iv 0)] hF fun a hF=>?_
    refine wpIn_ret (A7 [.tmp 2] [_] hF rfl ⟨rfl,trivial⟩ ?_)
    obtain rfl:=Ae h
    exact ⟨rfl,hS.ext⟩
theorem Qu (F:Nat) (p0:ref12_reader) (res:(api_Echo×ref12_reader)) (h:J1 F p0=some res) (μ:Frz) (w0 w1:World) (T_:List Res) (hlow:Ax w0 μ) {cb0:Nat} {ad1:Option Addr} {cap2:Nat} (hA3:ArrM μ 1 (fK .u8) ad1 cap2 p0.b) (hS:St w0 (fz w0 μ::blk cb0 135 #[sv ad1 p0.b cap2,.bool p0.bad]::T_) w1):Ba Tryz.prog 124 #[pb cb0] w1 (fun e w=>∃(ν_:Frz) (aO:Option Addr) (aP:Nat),μ.ext w0.heap.size ν_∧Ax w0 ν_∧e=(res.1.ag)∧(ArrM ν_ 1 (fK .u8) aO aP res.2.b)∧St w0 (fz w0 ν_::blk cb0 135 #[sv aO res.2.b aP,.bool res.2.bad]::T_) w):=by
 rw [J1] at h
 have hext:=Frz.ext_refl w0.heap.size μ
 refine feW Tryz.func124 42 [(0,pb cb0)] hS fun a w hF hS=>?_
 refine esr<|SK.wi (qA 149 Xa (fun b4=>[(2,pb b4)]) hF hS fun b4 w a hF hS=>wfn rfl ?_)
 refine esr<|qn 1 1 [(4,pb cb0)] hF fun a hF=>?_
 obtain ⟨y5,hy5,h⟩:=A0 h
 replace hS:=hS.s2.s2
 refine SK.wi (qR (fun v8=>[(5,v8)]) hF (Aj F _ _ hy5 μ w0 w _ hlow hA3 hS) ?_)
 rintro v8 w a ⟨ν6,ad9,bK,hx7,hlow,rfl,a0,hS⟩ hF
 replace hext:=hext.t hx7
 replace hA3:=hA3.mono hx7.1
 refine qn 1 3 [(6,.agg #[iv y5.1,iv 0,iv 0,iv 0,iv 0,iv 0,iv 0,iv 0,iv 0,iv 0,iv 0,iv 0,iv 0,iv 0])] hF fun a hF=>?_
 refine SK.wi (qA 149 Xa (fun a4=>[(3,pb a4)]) hF hS fun a4 w a hF hS=>?_)
 refine SK.wi (qw 149 0 #[iv y5.1,iv 0,iv 0,iv 0,iv 0,iv 0,iv 0,iv 0,iv 0,iv 0,iv 0,iv 0,iv 0,iv 0] hF hS rfl fun w a hF hS=>wfn rfl ?_)
 refine Am<|qoB [(9,.bool (y5.1==1))] hF (oL 3 0 0 hS.i rfl rfl<|A1) fun a hF=>?_
 refine A8 hF h (fun hc h=>?_) fun hc h=>?_
 ·refine esr<|qn 1 1 [(10,pb cb0)] hF fun a hF=>?_
  obtain ⟨aJ,b7,h⟩:=A0 h
  replace hS:=hS.s2.s2
  refine SK.wi (qR (fun aQ=>[(11,aQ)]) hF (Aj F _ _ b7 ν6 w0 w _ hlow a0 hS) ?_)
  rintro aQ w a ⟨ν14,aY,b1,aM,hlow,rfl,b5,hS⟩ hF
  replace hext:=hext.t aM
  replace hA3:=hA3.mono aM.1
  replace a0:=a0.mono aM.1
  refine qn 2 4 [(11,iv aJ.1),(13,.pointer (some ⟨a4,2,none⟩))] hF fun a hF=>?_
  refine SK.wi (qs 3 2 2 (iv aJ.1) hF hS rfl fun w a hF hS=>wfn rfl ?_)
  refine esr<|qo 1 1 [(14,.agg #[iv y5.1,iv 0,iv aJ.1,iv 0,iv 0,iv 0,iv 0,iv 0,iv 0,iv 0,iv 0,iv 0,iv 0,iv 0])] hF (oN 149 2 0 14 hS.i rfl<|A1) fun a hF=>?_
  refine SK.wi (qw 149 3 #[iv y5.1,iv 0,iv aJ.1,iv 0,iv 0,iv 0,iv 0,iv 0,iv 0,iv 0,iv 0,iv 0,iv 0,iv 0] hF hS rfl fun w a hF hS=>wfn rfl ?_)
  refine wpIn_ret (A2<|A7 [.cell 2 149] [_] hF rfl ⟨⟨_,rfl,Ea (cs:=[iv y5.1,iv 0,iv aJ.1,iv 0,iv 0,iv 0,iv 0,iv 0,iv 0,iv 0,iv 0,iv 0,iv 0,iv 0]) kr ((hS.blk (i:=3) rfl).cells rfl)⟩,trivial⟩ ?_)
  obtain rfl:=Ae h
  replace hS:=hS.d3.d2
  exact ⟨_,rfl,ν14,aY,b1,hext,hlow,rfl,b5,hS⟩
 ·refine wK<|esr<|qn 1 1 [(15,pb cb0)] hF fun a hF=>?_
  obtain ⟨a1,b8,h⟩:=A0 h
  replace hS:=hS.s2.s2
  refine SK.wi (qR (fun aR=>[(16,aR)]) hF (Di F _ _ b8 ν6 w0 w _ hlow a0 hS) ?_)
  rintro aR w a ⟨ν21,bF,bL,aN,hlow,rfl,a5,hS⟩ hF
  replace hext:=hext.t aN
  replace hA3:=hA3.mono aN.1
  replace a0:=a0.mono aN.1
  refine qn 1 3 [(16,.agg #[iv a1.1.Lo,iv a1.1.Hi]),(17,.pointer (some ⟨a4,1,none⟩))] hF fun a hF=>?_
  refine SK.wi (qm 146 2 1 [iv a1.1.Lo,iv a1.1.Hi] hF hS rfl fun w a hF hS=>wfn rfl ?_)
  refine esr<|qn 1 1 [(18,pb cb0)] hF fun a hF=>?_
  obtain ⟨a2,b9,h⟩:=A0 h
  refine SK.wi (qR (fun aS=>[(19,aS)]) hF (Di F _ _ b9 ν21 w0 w _ hlow a5 hS) ?_)
  rintro aS w a ⟨ν28,bG,bM,aK,hlow,rfl,a6,hS⟩ hF
  replace hext:=hext.t aK
  replace hA3:=hA3.mono aK.1
  replace a0:=a0.mono aK.1
  replace a5:=a5.mono aK.1
  refine qn 1 3 [(19,.agg #[iv a2.1.Lo,iv a2.1.Hi]),(20,.pointer (some ⟨a4,8,none⟩))] hF fun a hF=>?_
  refine SK.wi (qm 146 2 8 [iv a2.1.Lo,iv a2.1.Hi] hF hS rfl fun w a hF hS=>wfn rfl ?_)
  refine esr<|qn 1 1 [(21,pb cb0)] hF fun a hF=>?_
  obtain ⟨a3,bA,h⟩:=A0 h
  refine SK.wi (qR (fun aT=>[(22,aT)]) hF (Di F _ _ bA ν28 w0 w _ hlow a6 hS) ?_)
  rintro aT w a ⟨ν35,bH,bN,aI,hlow,rfl,aA,hS⟩ hF
  replace hext:=hext.t aI
  replace hA3:=hA3.mono aI.1
  replace a0:=a0.mono aI.1
  replace a5:=a5.mono aI.1
  replace a6:=a6.mono aI.1
  refine qn 1 3 [(22,.agg #[iv a3.1.Lo,iv a3.1.Hi]),(23,.pointer (some ⟨a4,10,none⟩))] hF fun a hF=>?_
  refine SK.wi (qm 146 2 10 [iv a3.1.Lo,iv a3.1.Hi] hF hS rfl fun w a hF hS=>wfn rfl ?_)
  refine esr<|qn 1 1 [(24,pb cb0)] hF fun a hF=>?_
  obtain ⟨aE,bB,h⟩:=A0 h
  refine SK.wi (qR (fun aU=>[(25,aU)]) hF (Aj F _ _ bB ν35 w0 w _ hlow aA hS) ?_)
  rintro aU w a ⟨ν42,aZ,b2,aG,hlow,rfl,aC,hS⟩ hF
  replace hext:=hext.t aG
  replace hA3:=hA3.mono aG.1
  replace a0:=a0.mono aG.1
  replace a5:=a5.mono aG.1
  replace a6:=a6.mono aG.1
  replace aA:=aA.mono aG.1
  refine qn 1 3 [(25,iv aE.1),(26,.pointer (some ⟨a4,7,none⟩))] hF fun a hF=>?_
  refine SK.wi (qs 3 2 7 (iv aE.1) hF hS rfl fun w a hF hS=>wfn rfl ?_)
  refine Am<|qoB [(29,.bool (y5.1==3))] hF (oL 3 2 0 hS.i rfl rfl<|A1) fun a hF=>?_
  refine A8 hF h (fun hc h=>?_) fun hc h=>?_
  ·refine esr<|qn 1 1 [(30,pb cb0)] hF fun a hF=>?_
   obtain ⟨a7,bC,h⟩:=A0 h
   refine SK.wi (qR (fun aV=>[(31,aV)]) hF (Di F _ _ bC ν42 w0 w _ hlow aC hS) ?_)
   rintro aV w a ⟨ν49,bI,bO,aF,hlow,rfl,aH,hS⟩ hF
   replace hext:=hext.t aF
   replace hA3:=hA3.mono aF.1
   replace a0:=a0.mono aF.1
   replace a5:=a5.mono aF.1
   replace a6:=a6.mono aF.1
   replace aA:=aA.mono aF.1
   replace aC:=aC.mono aF.1
   refine qo 2 4 [(31,.agg #[iv a7.1.Lo,iv a7.1.Hi]),(33,.pointer (some ⟨a4,3,none⟩))] hF (oX (.run [] (Instr.indexAt 147 (.pointer (some ⟨a4,3,none⟩)) (iv 0)) (.pointer (some ⟨a4,3,none⟩))) (Bm kr)<|A1) fun a hF=>?_
   refine SK.wi (qm 146 2 3 [iv a7.1.Lo,iv a7.1.Hi] hF hS rfl fun w a hF hS=>wfn rfl ?_)
   refine esr<|qn 1 1 [(34,pb cb0)] hF fun a hF=>?_
   obtain ⟨a8,bD,h⟩:=A0 h
   refine SK.wi (qR (fun aW=>[(35,aW)]) hF (Di F _ _ bD ν49 w0 w _ hlow aH hS) ?_)
   rintro aW w a ⟨ν56,bJ,bP,aD,hlow,rfl,aL,hS⟩ hF
   replace hext:=hext.t aD
   replace hA3:=hA3.mono aD.1
   replace a0:=a0.mono aD.1
   replace a5:=a5.mono aD.1
   replace a6:=a6.mono aD.1
   replace aA:=aA.mono aD.1
   replace aC:=aC.mono aD.1
   replace aH:=aH.mono aD.1
   refine qo 2 4 [(35,.agg #[iv a8.1.Lo,iv a8.1.Hi]),(37,.pointer (some ⟨a4,5,none⟩))] hF (oX (.run [] (Instr.indexAt 147 (.pointer (some ⟨a4,3,none⟩)) (iv 1)) (.pointer (some ⟨a4,5,none⟩))) (Bm kr)<|A1) fun a hF=>?_
   refine SK.wi (qm 146 2 5 [iv a8.1.Lo,iv a8.1.Hi] hF hS rfl fun w a hF hS=>wfn rfl ?_)
   refine WI.region<|qn 1 1 [(38,pb cb0)] hF fun a hF=>?_
   obtain ⟨a9,bE,h⟩:=A0 h
   refine SK.wi (qR (fun aX=>[(39,aX)]) hF (Di F _ _ bE ν56 w0 w _ hlow aL hS) ?_)
   rintro aX w a ⟨ν63,b0,b3,aB,hlow,rfl,b6,hS⟩ hF
   replace hext:=hext.t aB
   replace hA3:=hA3.mono aB.1
   replace a0:=a0.mono aB.1
   replace a5:=a5.mono aB.1
   replace a6:=a6.mono aB.1
   replace aA:=aA.mono aB.1
   replace aC:=aC.mono aB.1
   replace aH:=aH.mono aB.1
   replace aL:=aL.mono aB.1
   refine qn 1 3 [(39,.agg #[iv a9.1.Lo,iv a9.1.Hi]),(40,.pointer (some ⟨a4,12,none⟩))] hF fun a hF=>?_
   refine SK.wi (qm 146 2 12 [iv a9.1.Lo,iv a9.1.Hi] hF hS rfl fun w a hF hS=>wfn rfl ?_)
   refine esr<|qo 1 1 [(41,.agg #[iv y5.1,iv a1.1.Lo,iv a1.1.Hi,iv a7.1.Lo,iv a7.1.Hi,iv a8.1.Lo,iv a8.1.Hi,iv aE.1,iv a2.1.Lo,iv a2.1.Hi,iv a3.1.Lo,iv a3.1.Hi,iv a9.1.Lo,iv a9.1.Hi])] hF (oN 149 2 0 14 hS.i rfl<|A1) fun a hF=>?_
   refine SK.wi (qw 149 3 #[iv y5.1,iv a1.1.Lo,iv a1.1.Hi,iv a7.1.Lo,iv a7.1.Hi,iv a8.1.Lo,iv a8.1.Hi,iv aE.1,iv a2.1.Lo,iv a2.1.Hi,iv a3.1.Lo,iv a3.1.Hi,iv a9.1.Lo,iv a9.1.Hi] hF hS rfl fun w a hF hS=>wfn rfl ?_)
   refine wpIn_ret (A7 [.cell 2 149] [_] hF rfl ⟨⟨_,rfl,Ea (cs:=[iv y5.1,iv a1.1.Lo,iv a1.1.Hi,iv a7.1.Lo,iv a7.1.Hi,iv a8.1.Lo,iv a8.1.Hi,iv aE.1,iv a2.1.Lo,iv a2.1.Hi,iv a3.1.Lo,iv a3.1.Hi,iv a9.1.Lo,iv a9.1.Hi]) kr ((hS.blk (i:=3) rfl).cells rfl)⟩,trivial⟩ ?_)
   obtain rfl:=Ae h
   replace hS:=hS.d3.d2
   exact ⟨_,rfl,ν63,b0,b3,hext,hlow,rfl,b6,hS⟩
  ·refine wK<|esr<|qo 1 1 [(41,.agg #[iv y5.1,iv a1.1.Lo,iv a1.1.Hi,iv 0,iv 0,iv 0,iv 0,iv aE.1,iv a2.1.Lo,iv a2.1.Hi,iv a3.1.Lo,iv a3.1.Hi,iv 0,iv 0])] hF (oN 149 2 0 14 hS.i rfl<|A1) fun a hF=>?_
   refine SK.wi (qw 149 3 #[iv y5.1,iv a1.1.Lo,iv a1.1.Hi,iv 0,iv 0,iv 0,iv 0,iv aE.1,iv a2.1.Lo,iv a2.1.Hi,iv a3.1.Lo,iv a3.1.Hi,iv 0,iv 0] hF hS rfl fun w a hF hS=>wfn rfl ?_)
   refine wpIn_ret (A7 [.cell 2 149] [_] hF rfl ⟨⟨_,rfl,Ea (cs:=[iv y5.1,iv a1.1.Lo,iv a1.1.Hi,iv 0,iv 0,iv 0,iv 0,iv aE.1,iv a2.1.Lo,iv a2.1.Hi,iv a3.1.Lo,iv a3.1.Hi,iv 0,iv 0]) kr ((hS.blk (i:=3) rfl).cells rfl)⟩,trivial⟩ ?_)
   obtain rfl:=Ae h
   replace hS:=hS.d3.d2
   exact ⟨_,rfl,ν42,aZ,b2,hext,hlow,rfl,aC,hS⟩
theorem W4 (F:Nat) (p0:api_Echo) (res:(List Int)) (h:Lz F p0=some res) (μ:Frz) (w0:World) (hm:FrzAt μ w0):Ba Tryz.prog 126 #[p0.ag] w0 (fun e w=>∃zad0 zcap0,e=(sv zad0 res zcap0)∧St w0 [arr 5 1 (fK .u8) zad0 res.length zcap0 res] w):=by
 obtain ⟨hlow,hS⟩:=hm.init
 have hext:=Frz.ext_refl w0.heap.size μ
 rw [Lz] at h
 refine feW Tryz.func126 51 [(0,p0.ag)] hS fun a w hF hS=>?_
 refine esr<|SK.wi (qBa 149 p0.ar (fun b1=>[(1,pb b1)]) hF hS fun b1 w a hF hS=>?_)
 refine qn 1 2 [] hF fun a hF=>wfn rfl ?_
 refine esr<|qo 2 2 [(5,iv p0.Kind)] hF (oL 3 0 0 hS.i rfl rfl<|A1) fun a hF=>?_
 obtain ⟨y3,hy3,h⟩:=A0 h
 refine SK.wi (qR (fun v2=>[(6,v2)]) hF (At F _ _ hy3 (B0 w) w (A4 w)) ?_)
 rintro v2 w a ⟨ad4,cap5,rfl,hQ⟩ hF
 replace hS:=hS.madeL hQ
 refine qn 1 4 [(3,sv ad4 y3 cap5)] hF fun a hF=>wfn rfl ?_
 refine Am<|qoB [(9,.bool (p0.Kind==1))] hF (oL 3 1 0 hS.i rfl rfl<|A1) fun a hF=>?_
 refine A8 hF h (fun hc h=>?_) fun hc h=>?_
 ·refine esr<|ro 4 4 [(10,sv ad4 y3 cap5),(13,iv p0.Power.Hi)] hF (oL 3 1 2 hS.i rfl rfl<|A1) fun a hF=>?_
  obtain ⟨y7,hy7,h⟩:=A0 h
  refine SK.wi (qR (fun v6=>[(14,v6)]) hF (At F _ _ hy7 (B0 w) w (A4 w)) ?_)
  rintro v6 w a ⟨ad8,cap9,rfl,hQ⟩ hF
  replace hS:=hS.madeL hQ
  obtain ⟨bC,bQ,h⟩:=A0 h
  refine SK.wi (qP 22 22 1 (fun b4 b6=>[(15,sv b4 bC b6)]) hF hS (hS.arr (i:=0) rfl) bQ rfl fun b4 b6 w a hF hS=>?_)
  refine rn 1 7 [(2,sv b4 bC b6)] hF fun a hF=>wfn rfl ?_
  refine wpIn_ret (A2<|A7 [.tmp 2] [_] hF rfl ⟨rfl,trivial⟩ ?_)
  obtain rfl:=Ae h
  exact ⟨_,rfl,_,_,rfl,St.pick [1] (by decide) hS⟩
 ·refine wK<|Am ?_
  obtain ⟨a8,bX,h⟩:=A0 h
  obtain ⟨a9,bZ,h⟩:=A0 h
  obtain ⟨aA,c0,h⟩:=A0 h
  obtain ⟨aD,c1,h⟩:=A0 h
  obtain ⟨bM,c2,h⟩:=A0 h
  refine Bq 15 [3,6,9,12,13,14] _ (D:=fun w=>St w0 [arr 5 1 (fK .u8) ad4 y3.length cap5 y3,blk b1 149 p0.ar] w∧FrzAt μ w) kr kr hF.size (fun w hx=>?_) (fun _ _ h=>h)
  replace hS:=hS.later hx
  refine ⟨⟨St.pick [0,1] (by decide) hS,hS.frz (i:=2) rfl hlow⟩,?_⟩
  have a4:=Frz.le_refl μ
  refine WT.s [0,1,2,4,5,7,8,10,11] [3] kr kr ?_
  refine qC 9 [(16,sv ad4 y3 cap5),(18,.agg #[iv p0.Power.Lo,iv p0.Power.Hi]),(21,.agg #[iv p0.Ratio.Lo,iv p0.Ratio.Hi]),(24,.agg #[iv p0.Match.Lo,iv p0.Match.Hi]),(27,iv p0.Spread)] hF (oN 146 1 1 2 (fun _ hd=>hd.1) rfl<|oN 146 1 8 2 (fun _ hd=>hd.1) rfl<|oN 146 1 10 2 (fun _ hd=>hd.1) rfl<|oL 3 1 7 (fun _ hd=>hd.1) rfl rfl<|A1) fun a hF=>?_
  refine WRun.fin ?_
  refine all_cons ?_ (Aq)
  refine qR (fun bI=>[(19,bI)]) hF (Hc F _ _ bX (B0 w) w (A4 w)) ?_
  rintro bI w a ⟨aE,aH,rfl,hQ⟩ hF
  replace hS:=hS.madeL hQ
  refine ⟨⟨St.pick [1,2] (by decide) hS,(hS.frz (i:=3) rfl hlow)⟩,?_⟩
  refine WT.s [] [6] kr kr ?_
  refine WRun.fin ?_
  refine all_cons ?_ (Aq)
  refine qR (fun bJ=>[(19,sv aE a8 aH),(22,bJ)]) hF (Hc F _ _ bZ (B0 w) w (A4 w)) ?_
  rintro bJ w a ⟨aF,aI,rfl,hQ⟩ hF
  replace hS:=hS.madeL hQ
  refine ⟨⟨St.pick [2,3] (by decide) hS,(hS.frz (i:=4) rfl hlow)⟩,?_⟩
  refine WT.s [] [9] kr kr ?_
  refine WRun.fin ?_
  refine all_cons ?_ (Aq)
  refine qR (fun bK=>[(22,sv aF a9 aI),(25,bK)]) hF (Hc F _ _ c0 (B0 w) w (A4 w)) ?_
  rintro bK w a ⟨aG,aJ,rfl,hQ⟩ hF
  replace hS:=hS.madeL hQ
  refine ⟨⟨St.pick [3,4] (by decide) hS,(hS.frz (i:=5) rfl hlow)⟩,?_⟩
  refine WT.s [] [12] kr kr ?_
  refine WRun.fin ?_
  refine all_cons ?_ (Aq)
  refine qR (fun bL=>[(25,sv aG aA aJ),(28,bL)]) hF (At F _ _ c1 (B0 w) w (A4 w)) ?_
  rintro bL w a ⟨aR,aU,rfl,hQ⟩ hF
  replace hS:=hS.madeL hQ
  refine ⟨⟨St.pick [4,5] (by decide) hS,(hS.frz (i:=6) rfl hlow)⟩,?_⟩
  refine WT.s [] [13] kr kr ?_
  refine WRun.fin ?_
  refine all_cons ?_ (Aq)
  obtain ⟨ν98,bB,hlow,hS,c3⟩:=hS.freeze (i:=6) (j:=3) rfl rfl (by decide) hlow
  replace a4:=a4.t bB.1
  replace hext:=hext.t bB
  have a0:=ArrM.of_arr c3
  obtain ⟨ν102,b8,hlow,hS,c4⟩:=hS.freeze (i:=5) (j:=2) rfl rfl (by decide) hlow
  replace a0:=a0.mono b8.1
  replace a4:=a4.t b8.1
  replace hext:=hext.t b8
  have a1:=ArrM.of_arr c4
  obtain ⟨ν106,b3,hlow,hS,c5⟩:=hS.freeze (i:=4) (j:=1) rfl rfl (by decide) hlow
  replace a0:=a0.mono b3.1
  replace a1:=a1.mono b3.1
  replace a4:=a4.t b3.1
  replace hext:=hext.t b3
  have a6:=ArrM.of_arr c5
  obtain ⟨ν110,aZ,hlow,hS,c6⟩:=hS.freeze (i:=3) (j:=0) rfl rfl (by decide) hlow
  replace a0:=a0.mono aZ.1
  replace a1:=a1.mono aZ.1
  replace a6:=a6.mono aZ.1
  replace a4:=a4.t aZ.1
  replace hext:=hext.t aZ
  replace hS:St w0 [arr 5 1 (fK .u8) ad4 y3.length cap5 y3,blk b1 149 p0.ar,fz w0 ν110] w:=hS
  have aK:=ArrM.of_arr c6
  have aL:All2 (Rp22 ν110) ([[sv aE a8 aH],[sv aF a9 aI],[sv aG aA aJ],[sv aR aD aU]]:List (List Value)) [a8,a9,aA,aD]:=(All2.cons ⟨aE,aH,rfl,a0⟩ (All2.cons ⟨aF,aI,rfl,a1⟩ (All2.cons ⟨aG,aJ,rfl,a6⟩ (All2.cons ⟨aR,aU,rfl,aK⟩ All2.nil))))
  refine Qn (e:=22) (sz:=1) (f:=fN 1) (t:=105) (len:=4) (fun b5=>[(1,pb b1),(3,sv ad4 y3 cap5),(16,sv ad4 y3 cap5),(29,sb b5 4)]) #[(0,sv aE a8 aH),(1,sv aF a9 aI),(2,sv aG aA aJ),(3,sv aR aD aU)] #[sv aE a8 aH,sv aF a9 aI,sv aG aA aJ,sv aR aD aU] ([[sv aE a8 aH],[sv aF a9 aI],[sv aG aA aJ],[sv aR aD aU]]:List (List Value)) ([a8,a9,aA,aD]) hF hS kr ⟨kr⟩ kr (Dg 1) rfl rfl rfl kr (fun _=>⟨kr⟩) fun b5 w a hF hS=>⟨⟨St.pick [1,2] (by decide) hS,(hS.frz (i:=3) rfl hlow).low a4⟩,?_⟩
  refine WT.s [] [14] kr kr ?_
  refine WRun.fin ?_
  refine all_cons ?_ (Aq)
  refine rR (fun bD=>[(1,pb b1),(3,sv ad4 y3 cap5),(16,sv ad4 y3 cap5),(30,bD)]) hF (Jd F _ _ c2 (B0 w) w (A4 w) (ArrQ.of_own (hS.arr (i:=0) rfl) aL Rp22.mono (FrzAt.le_mem (hS.frz (i:=3) rfl hlow)))) ?_
  rintro bD w a ⟨bN,bO,rfl,hQ⟩ hF
  replace hS:=hS.madeL hQ
  refine ⟨⟨St.pick [2,3] (by decide) hS,(hS.frz (i:=4) rfl hlow).low a4⟩,?_⟩
  refine WT.z [] kr ?_
  refine WRun.fin ?_
  obtain ⟨a5,bR,h⟩:=A0 h
  refine SK.wi (qP 22 22 2 (fun a2 a3=>[(31,sv a2 a5 a3)]) hF hS (hS.arr (i:=0) rfl) bR rfl fun a2 a3 w a hF hS=>?_)
  refine rn 1 17 [(1,pb b1),(3,sv a2 a5 a3)] hF fun a hF=>wfn rfl ?_
  refine Am<|qoB [(34,.bool (p0.Kind==3))] hF (oL 3 3 0 hS.i rfl rfl<|A1) fun a hF=>?_
  refine A8 hF h (fun hc h=>?_) fun hc h=>?_
  ·obtain ⟨aN,bU,h⟩:=A0 h
   obtain ⟨aO,bV,h⟩:=A0 h
   obtain ⟨aV,bW,h⟩:=A0 h
   obtain ⟨cC,bY,h⟩:=A0 h
   refine Bq 14 [4,8,11,12,13] _ (D:=fun w=>St w0 [arr 5 1 (fK .u8) bN bM.length bO bM,arr 22 1 (fN 1) (some ⟨b5,0,none⟩) ([a8,a9,aA,aD]).length 4 ([[sv aE a8 aH],[sv aF a9 aI],[sv aG aA aJ],[sv aR aD aU]]:List (List Value)),arr 5 1 (fK .u8) a2 a5.length a3 a5,blk b1 149 p0.ar] w∧FrzAt ν110 w) kr kr hF.size (fun w hx=>?_) (fun _ _ h=>h)
   replace hS:=hS.later hx
   refine ⟨⟨St.pick [0,1,2,3] (by decide) hS,hS.frz (i:=4) rfl hlow⟩,?_⟩
   have aB:=Frz.le_refl ν110
   refine WT.s [0,1,2,3,5,6,7,9,10] [4] kr kr ?_
   refine qC 9 [(35,sv a2 a5 a3),(38,.agg #[iv p0.Steps.1.Lo,iv p0.Steps.1.Hi]),(42,.agg #[iv p0.Steps.2.Lo,iv p0.Steps.2.Hi]),(45,.agg #[iv p0.Turn.Lo,iv p0.Turn.Hi])] hF (oX (.run [] (Instr.indexAt 147 (.pointer (some ⟨b1,3,none⟩)) (iv 0)) (.pointer (some ⟨b1,3,none⟩))) (Bm kr)<|oN 146 3 3 2 (fun _ hd=>hd.1) rfl<|oX (.run [] (Instr.indexAt 147 (.pointer (some ⟨b1,3,none⟩)) (iv 1)) (.pointer (some ⟨b1,5,none⟩))) (Bm kr)<|oN 146 3 5 2 (fun _ hd=>hd.1) rfl<|oN 146 3 12 2 (fun _ hd=>hd.1) rfl<|A1) fun a hF=>?_
   refine WRun.fin ?_
   refine all_cons ?_ (Aq)
   refine qR (fun bE=>[(39,bE)]) hF (Hc F _ _ bU (B0 w) w (A4 w)) ?_
   rintro bE w a ⟨aP,aS,rfl,hQ⟩ hF
   replace hS:=hS.madeL hQ
   refine ⟨⟨St.pick [1,2,3,4] (by decide) hS,(hS.frz (i:=5) rfl hlow)⟩,?_⟩
   refine WT.s [] [8] kr kr ?_
   refine WRun.fin ?_
   refine all_cons ?_ (Aq)
   refine qR (fun bF=>[(39,sv aP aN aS),(43,bF)]) hF (Hc F _ _ bV (B0 w) w (A4 w)) ?_
   rintro bF w a ⟨aQ,aT,rfl,hQ⟩ hF
   replace hS:=hS.madeL hQ
   refine ⟨⟨St.pick [2,3,4,5] (by decide) hS,(hS.frz (i:=6) rfl hlow)⟩,?_⟩
   refine WT.s [] [11] kr kr ?_
   refine WRun.fin ?_
   refine all_cons ?_ (Aq)
   refine qR (fun bG=>[(43,sv aQ aO aT),(46,bG)]) hF (Hc F _ _ bW (B0 w) w (A4 w)) ?_
   rintro bG w a ⟨aW,aX,rfl,hQ⟩ hF
   replace hS:=hS.madeL hQ
   refine ⟨⟨St.pick [3,4,5,6] (by decide) hS,(hS.frz (i:=7) rfl hlow)⟩,?_⟩
   refine WT.s [] [12] kr kr ?_
   refine WRun.fin ?_
   refine all_cons ?_ (Aq)
   obtain ⟨ν188,aM,hlow,hS,c7⟩:=hS.freeze (i:=7) (j:=2) rfl rfl (by decide) hlow
   replace a0:=a0.mono aM.1
   replace a1:=a1.mono aM.1
   replace a6:=a6.mono aM.1
   replace aK:=aK.mono aM.1
   replace aL:=All2.mono Rp22.mono aM.1 aL
   replace aB:=aB.t aM.1
   replace hext:=hext.t aM
   have aY:=ArrM.of_arr c7
   obtain ⟨ν192,aC,hlow,hS,c8⟩:=hS.freeze (i:=6) (j:=1) rfl rfl (by decide) hlow
   replace a0:=a0.mono aC.1
   replace a1:=a1.mono aC.1
   replace a6:=a6.mono aC.1
   replace aK:=aK.mono aC.1
   replace aL:=All2.mono Rp22.mono aC.1 aL
   replace aY:=aY.mono aC.1
   replace aB:=aB.t aC.1
   replace hext:=hext.t aC
   have b7:=ArrM.of_arr c8
   obtain ⟨ν196,a7,hlow,hS,c9⟩:=hS.freeze (i:=5) (j:=0) rfl rfl (by decide) hlow
   replace a0:=a0.mono a7.1
   replace a1:=a1.mono a7.1
   replace a6:=a6.mono a7.1
   replace aK:=aK.mono a7.1
   replace aL:=All2.mono Rp22.mono a7.1 aL
   replace aY:=aY.mono a7.1
   replace b7:=b7.mono a7.1
   replace aB:=aB.t a7.1
   replace hext:=hext.t a7
   have bP:=ArrM.of_arr c9
   have bT:All2 (Rp22 ν196) ([[sv aP aN aS],[sv aQ aO aT],[sv aW aV aX]]:List (List Value)) [aN,aO,aV]:=(All2.cons ⟨aP,aS,rfl,aY⟩ (All2.cons ⟨aQ,aT,rfl,b7⟩ (All2.cons ⟨aW,aX,rfl,bP⟩ All2.nil)))
   refine Qn (e:=22) (sz:=1) (f:=fN 1) (t:=105) (len:=3) (fun bA=>[(3,sv a2 a5 a3),(35,sv a2 a5 a3),(47,sb bA 3)]) #[(0,sv aP aN aS),(1,sv aQ aO aT),(2,sv aW aV aX)] #[sv aP aN aS,sv aQ aO aT,sv aW aV aX] ([[sv aP aN aS],[sv aQ aO aT],[sv aW aV aX]]:List (List Value)) ([aN,aO,aV]) hF hS kr ⟨kr⟩ kr (Dg 1) rfl rfl rfl kr (fun _=>⟨kr⟩) fun bA w a hF hS=>⟨⟨St.pick [1,2,3,4] (by decide) hS,(hS.frz (i:=5) rfl hlow).low aB⟩,?_⟩
   refine WT.s [] [13] kr kr ?_
   refine WRun.fin ?_
   refine all_cons ?_ (Aq)
   refine rR (fun bH=>[(3,sv a2 a5 a3),(35,sv a2 a5 a3),(48,bH)]) hF (Jd F _ _ bY (B0 w) w (A4 w) (ArrQ.of_own (hS.arr (i:=0) rfl) bT Rp22.mono (FrzAt.le_mem (hS.frz (i:=5) rfl hlow)))) ?_
   rintro bH w a ⟨cA,cB,rfl,hQ⟩ hF
   replace hS:=hS.madeL hQ
   refine ⟨⟨St.pick [2,3,4,5] (by decide) hS,(hS.frz (i:=6) rfl hlow).low aB⟩,?_⟩
   refine WT.z [] kr ?_
   refine WRun.fin ?_
   obtain ⟨b9,bS,h⟩:=A0 h
   refine SK.wi (qP 22 22 4 (fun b0 b2=>[(49,sv b0 b9 b2)]) hF hS (hS.arr (i:=0) rfl) bS rfl fun b0 b2 w a hF hS=>?_)
   refine rn 1 16 [(3,sv b0 b9 b2)] hF fun a hF=>wfn rfl ?_
   refine rnB [(2,sv b0 b9 b2)] hF fun a hF=>?_
   refine wpIn_ret (A7 [.tmp 2] [_] hF rfl ⟨rfl,trivial⟩ ?_)
   obtain rfl:=Ae h
   exact ⟨_,rfl,_,_,rfl,St.pick [4] (by decide) hS⟩
  ·refine wK<|rnB [(2,sv a2 a5 a3)] hF fun a hF=>?_
   refine wpIn_ret (A7 [.tmp 2] [_] hF rfl ⟨rfl,trivial⟩ ?_)
   obtain rfl:=Ae h
   exact ⟨_,rfl,_,_,rfl,St.pick [2] (by decide) hS⟩
end Go.Proofs.YtifbomimeodibaaGreat
