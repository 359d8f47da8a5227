import Derived.Test.YtifbomimeodibaaGreatV4XD
import Derived.Test.YtifbomimeodibaaGreatProg
import Derived.Test.YtifbomimeodibaaGreatV4XW1
import Derived.Test.YtifbomimeodibaaGreatV4XW2
import Derived.Test.YtifbomimeodibaaGreatV4XW4
import Derived.Test.YtifbomimeodibaaGreatV4XW5
namespace Go.Proofs.YtifbomimeodibaaGreat
open Go Go.RowKit Go.Eng
set_option maxRecDepth 10000
set_option maxHeartbeats 4000000
set_option linter.unusedVariables false
set_option linter.unusedSimpArgs false
theorem Q9 (F:Nat) (p0:api_Sweep) (res:Int) (h:Bc F p0=some res) (μ:Frz) (w0:World) (hm:FrzAt μ w0) {ad1:Option Addr} {cap2:Nat} {css3:List (List Value)} (hA4:ArrQ μ 1 Rp87 ad1 cap2 css3 p0.Rays):Calls Tryz.prog 167 #[.agg (p0.ax ad1 cap2)] w0 (fun e w=>e=.returned (iv res)∧Ext w0 w):=by
 obtain ⟨hlow,hS⟩:=hm.init
 have hext:=Frz.ext_refl w0.heap.size μ
 rw [Bc] at h
 refine feW Tryz.func167 69 [(0,.agg (p0.ax ad1 cap2))] hS fun a w hF hS=>?_
 refine esr<|SK.wi (qBa 41 (p0.ax ad1 cap2) (fun b5=>[(1,pb b5)]) hF hS fun b5 w a hF hS=>?_)
 refine qn 1 2 [] hF fun a hF=>wfn rfl ?_
 refine Ak<|esr ?_
 obtain ⟨y6,hy6,h⟩:=A0 h
 refine qx 4 4 [(3,iv y6)] hF (oN 38 0 0 8 hS.e rfl<|oC (fun w2 hd=>Mp F p0.Site _ hy6 _ w2 (A1 w2))<|A3) fun a w hF hx=>?_
 replace hS:=hS.later hx
 refine wfn rfl ?_
 refine qnB [(15,.bool (y6 != 0))] hF fun a hF=>?_
 refine A8 hF h (fun hc h=>?_) fun hc h=>?_
 ·refine rnB [(2,iv y6)] hF fun a hF=>?_
  refine wpIn_ret (A2<|A9 [.tmp 2] [_] hF rfl ⟨rfl,trivial⟩ ?_)
  obtain rfl:=Ai h
  exact ⟨rfl,hS.ext⟩
 ·refine wK<|Ak<|esr<|qx 10 10 [(26,.bool (bif (!(As p0.Tilt 0 256)) then true else (!(As p0.Time 0 4294967296))))] hF (oL 3 0 8 hS.e rfl rfl<|oC (fun w2 hd=>Gk p0.Tilt 0 256 _ rfl _ w2 (A1 w2))<|oGs [⟨21,false,(!(As p0.Tilt 0 256))⟩] (oL 3 0 9 hS.e rfl rfl<|oC (fun w2 hd=>Gk p0.Time 0 4294967296 _ rfl _ w2 (A1 w2))<|A3)<|A3) fun a w hF hx=>?_
  replace hS:=hS.later hx
  refine wfn rfl ?_
  refine A8 hF h (fun hc h=>?_) fun hc h=>?_
  ·refine rnB [(2,iv 3)] hF fun a hF=>?_
   refine wpIn_ret (A2<|A9 [.tmp 2] [_] hF rfl ⟨rfl,trivial⟩ ?_)
   obtain rfl:=Ai h
   exact ⟨rfl,hS.ext⟩
  ·refine wK<|Ak<|esr ?_
   obtain ⟨x7,hx7,h⟩:=A0 h
   refine qo 8 8 [(34,.bool ((ln p0.Rays) != x7))] hF (oL 39 0 10 hS.i rfl rfl<|oL 3 0 4 hS.i rfl rfl<|oM 3 hx7<|A3) fun a hF=>wfn rfl ?_
   refine A8 hF h (fun hc h=>?_) fun hc h=>?_
   ·refine rnB [(2,iv 11)] hF fun a hF=>?_
    refine wpIn_ret (A2<|A9 [.tmp 2] [_] hF rfl ⟨rfl,trivial⟩ ?_)
    obtain rfl:=Ai h
    exact ⟨rfl,hS.ext⟩
   ·refine wK<|D4 (fun a w=>Fr 69 [] [(1,pb b5)] a∧St w0 [blk b5 41 (p0.ax ad1 cap2),fz w0 μ] w∧Em F p0=some res) ?_ ?_
    ·skip
     refine qoB [(36,sv ad1 p0.Rays cap2),(37,iv (ln p0.Rays)),(38,iv 0)] hF (oL 39 0 10 hS.i rfl rfl<|A3) fun a hF=>?_
     refine wpIn_block<|Cc (fun n_ a w=>∃(a4:Int),Fr 69 [] [(1,pb b5),(36,sv ad1 p0.Rays cap2),(37,iv (ln p0.Rays)),(38,iv a4)] a∧St w0 [blk b5 41 (p0.ax ad1 cap2),fz w0 μ] w∧Cl F p0 n_ a4=some res) F ⟨0,hF.sub kr,St.pick [0,1] (by decide) hS,h⟩ ?_
     rintro nk6 a w ⟨a4,hF,hS,h⟩
     rcases nk6 with _|nk6
     ·cases (show (none:Option Int)=some res from h)
     obtain ⟨k6,hk6⟩:∃k,k=Cl F p0 nk6:=⟨_,rfl⟩
     replace h:El F p0 k6 a4=some res:=by rw [hk6];exact h
     rw [El] at h
     refine qnB [(39,.bool (decide (a4<(ln p0.Rays))))] hF fun a hF=>?_
     refine Ak<|A8 hF h (fun hc h=>?_) fun hc h=>?_
     ·refine wK<|Ak<|wpIn_block<|esr ?_
      obtain ⟨aD,aM,h⟩:=A0 h
      obtain ⟨aS,aB,aK⟩:=B8 hA4.2 aM
      obtain ⟨aH,aI,rfl,aT⟩:=aK
      refine qo 3 3 [(5,sv aH aD aI)] hF (oI 39 (hA4.at (hS.frz (i:=1) rfl hlow)) aB<|oE 87 0 (Bt 1) (fun _ hd=>(hA4.at ((hS.at_ hd).frz (i:=1) rfl hlow))) aB rfl<|A3) fun a hF=>wfn rfl ?_
      refine qoB [(47,.bool ((ln aD) != p0.Site.Gates))] hF (oL 3 0 5 hS.i rfl rfl<|A3) fun a hF=>?_
      refine A8 hF h (fun hc h=>?_) fun hc h=>?_
      ·refine rnB [(2,iv 11)] hF fun a hF=>?_
       refine wpIn_ret (Ab<|A2<|A2<|Ab<|A2<|A9 [.tmp 2] [_] hF rfl ⟨rfl,trivial⟩ ?_)
       obtain rfl:=Ai h
       exact ⟨rfl,hS.ext⟩
      ·refine wpIn_skip (A7<|A4<|?_)
       refine WI.region ?_
       obtain ⟨aG,aP,h⟩:=A0 h
       refine ro 2 2 [(1,pb b5),(36,sv ad1 p0.Rays cap2),(37,iv (ln p0.Rays)),(38,iv aG)] hF (oA 3 aP<|A3) fun a hF=>wfn rfl ?_
       rw [hk6] at h
       exact ⟨nk6,Nat.lt_succ_self _,aG,hF.sub kr,St.pick [0,1] (by decide) hS,h⟩
     ·refine wpIn_exit (A6<|A6<|Aq<|A4 ?_)
      exact ⟨hF.sub kr,St.pick [0,1] (by decide) hS,h⟩
    rintro a w ⟨hF,hS,h⟩
    rw [Em] at h
    refine D4 (fun a w=>Fr 69 [] [] a∧St w0 [blk b5 41 (p0.ax ad1 cap2),fz w0 μ] w∧Fv=some res) ?_ ?_
    ·skip
     refine roB [(50,sv ad1 p0.Rays cap2),(51,iv (ln p0.Rays)),(52,iv 0)] hF (oL 39 0 10 hS.i rfl rfl<|A3) fun a hF=>?_
     refine wpIn_block<|Cc (fun n_ a w=>∃(a1:Int),Fr 69 [] [(50,sv ad1 p0.Rays cap2),(51,iv (ln p0.Rays)),(52,iv a1)] a∧St w0 [blk b5 41 (p0.ax ad1 cap2),fz w0 μ] w∧Bw F p0 n_ a1=some res) F ⟨0,hF.sub kr,St.pick [0,1] (by decide) hS,h⟩ ?_
     rintro nk3 a w ⟨a1,hF,hS,h⟩
     rcases nk3 with _|nk3
     ·cases (show (none:Option Int)=some res from h)
     obtain ⟨k3,hk3⟩:∃k,k=Bw F p0 nk3:=⟨_,rfl⟩
     replace h:Ej F p0 k3 a1=some res:=by rw [hk3];exact h
     rw [Ej] at h
     refine qnB [(53,.bool (decide (a1<(ln p0.Rays))))] hF fun a hF=>?_
     refine Ak<|A8 hF h (fun hc h=>?_) fun hc h=>?_
     ·refine wK<|D4 (fun a w=>Fr 69 [] [(50,sv ad1 p0.Rays cap2),(51,iv (ln p0.Rays)),(52,iv a1)] a∧St w0 [blk b5 41 (p0.ax ad1 cap2),fz w0 μ] w∧Dp a1 k3=some res) ?_ ?_
      ·skip
       refine wpIn_block<|esr ?_
       obtain ⟨a2,aL,h⟩:=A0 h
       obtain ⟨aR,aA,aJ⟩:=B8 hA4.2 aL
       obtain ⟨a5,a6,rfl,a9⟩:=aJ
       refine qo 3 3 [(7,sv a5 a2 a6)] hF (oI 39 (hA4.at (hS.frz (i:=1) rfl hlow)) aA<|oE 87 0 (Bt 1) (fun _ hd=>(hA4.at ((hS.at_ hd).frz (i:=1) rfl hlow))) aA rfl<|A3) fun a hF=>wfn rfl ?_
       refine qnB [(56,sv a5 a2 a6),(57,iv (ln a2)),(58,iv 0)] hF fun a hF=>?_
       refine wpIn_block<|Cc (fun n_ a w=>∃(a3:Int),Fr 69 [] [(50,sv ad1 p0.Rays cap2),(51,iv (ln p0.Rays)),(52,iv a1),(56,sv a5 a2 a6),(57,iv (ln a2)),(58,iv a3)] a∧St w0 [blk b5 41 (p0.ax ad1 cap2),fz w0 μ] w∧Bx F a1 k3 a2 n_ a3=some res) F ⟨0,hF.sub kr,St.pick [0,1] (by decide) hS,h⟩ ?_
       rintro nk5 a w ⟨a3,hF,hS,h⟩
       rcases nk5 with _|nk5
       ·cases (show (none:Option Int)=some res from h)
       obtain ⟨k5,hk5⟩:∃k,k=Bx F a1 k3 a2 nk5:=⟨_,rfl⟩
       replace h:Ek F a1 k3 a2 k5 a3=some res:=by rw [hk5];exact h
       rw [Ek] at h
       refine qnB [(59,.bool (decide (a3<(ln a2))))] hF fun a hF=>?_
       refine Ak<|A8 hF h (fun hc h=>?_) fun hc h=>?_
       ·refine wK<|Ak<|wpIn_block<|esr ?_
        obtain ⟨a0,aC,h⟩:=A0 h
        refine qo 2 2 [(61,a0.ag)] hF (oI 87 (a9 _ (hS.frz (i:=1) rfl hlow)) aC<|oG 149 0 14 api_Echo.cells_len (fun _ hd=>(a9 _ ((hS.at_ hd).frz (i:=1) rfl hlow))) aC<|A3) fun a hF=>?_
        refine SK.wi (qA 149 Zg (fun a8=>[(9,pb a8)]) hF hS fun a8 w a hF hS=>?_)
        refine SK.wi (qw 149 0 a0.ar hF hS rfl fun w a hF hS=>wfn rfl ?_)
        refine esr ?_
        obtain ⟨a7,aQ,h⟩:=A0 h
        refine qx 3 3 [(10,iv a7)] hF (oN 149 0 0 14 hS.e rfl<|oC (fun w2 hd=>Qu F (api_Echo.mk a0.Kind a0.Power ((api_Span.mk a0.Steps.1.Lo a0.Steps.1.Hi),(api_Span.mk a0.Steps.2.Lo a0.Steps.2.Hi)) a0.Spread a0.Ratio a0.Match a0.Turn) _ aQ _ w2 (A1 w2))<|A3) fun a w hF hx=>?_
        replace hS:=hS.later hx
        refine wfn rfl ?_
        refine qnB [(65,.bool (a7 != 0))] hF fun a hF=>?_
        refine A8 hF h (fun hc h=>?_) fun hc h=>?_
        ·refine rnB [(2,iv a7)] hF fun a hF=>?_
         refine wpIn_ret (Ab<|A2<|A2<|Ab<|Ab<|A2<|A2<|Ab<|A2<|A9 [.tmp 2] [_] hF rfl ⟨rfl,trivial⟩ ?_)
         obtain rfl:=Ai h
         exact ⟨rfl,hS.ext⟩
        ·refine wpIn_skip (A7<|A4<|?_)
         refine WI.region ?_
         obtain ⟨aF,aO,h⟩:=A0 h
         refine ro 2 2 [(50,sv ad1 p0.Rays cap2),(51,iv (ln p0.Rays)),(52,iv a1),(56,sv a5 a2 a6),(57,iv (ln a2)),(58,iv aF)] hF (oA 3 aO<|A3) fun a hF=>wfn rfl ?_
         rw [hk5] at h
         exact ⟨nk5,Nat.lt_succ_self _,aF,hF.sub kr,St.pick [1,2] (by decide) hS,h⟩
       ·refine wpIn_exit (A6<|A6<|Aq<|A7<|A4<|?_)
        exact ⟨hF.sub kr,St.pick [0,1] (by decide) hS,h⟩
      rintro a w ⟨hF,hS,h⟩
      rw [Dp] at h
      refine WI.region ?_
      obtain ⟨aE,aN,h⟩:=A0 h
      refine ro 2 2 [(50,sv ad1 p0.Rays cap2),(51,iv (ln p0.Rays)),(52,iv aE)] hF (oA 3 aN<|A3) fun a hF=>wfn rfl ?_
      rw [hk3] at h
      exact ⟨nk3,Nat.lt_succ_self _,aE,hF.sub kr,St.pick [0,1] (by decide) hS,h⟩
     ·refine wpIn_exit (A6<|A6<|Aq<|A4 ?_)
      exact ⟨hF.sub kr,St.pick [0,1] (by decide) hS,h⟩
    rintro a w ⟨hF,hS,h⟩
    rw [Fv] at h
    refine rnB [(2,iv 0)] hF fun a hF=>?_
    refine wpIn_ret (A9 [.tmp 2] [_] hF rfl ⟨rfl,trivial⟩ ?_)
    obtain rfl:=Ai h
    exact ⟨rfl,hS.ext⟩
theorem U7 (F:Nat) (p0:api_Echo) (res:(List Int)) (h:Kr F p0=some res) (μ:Frz) (w0:World) (hm:FrzAt μ w0):Bd Tryz.prog 126 #[p0.ag] w0 (fun e w=>∃zad0 zcap0,e=(sv zad0 res zcap0)∧St w0 [arr 5 1 (fK .u8) zad0 res.length zcap0 res] w):=by
 obtain ⟨hlow,hS⟩:=hm.init
 have hext:=Frz.ext_refl w0.heap.size μ
 rw [Kr] at h
 refine feW Tryz.func126 51 [(0,p0.ag)] hS fun a w hF hS=>?_
 refine esr<|SK.wi (qBa 149 p0.ar (fun b1=>[(1,pb b1)]) hF hS fun b1 w a hF hS=>?_)
 refine qn 1 2 [] hF fun a hF=>wfn rfl ?_
 refine esr<|qo 2 2 [(5,iv p0.Kind)] hF (oL 3 0 0 hS.i rfl rfl<|A3) fun a hF=>?_
 obtain ⟨y3,hy3,h⟩:=A0 h
 refine SK.wi (qR (fun v2=>[(6,v2)]) hF (An F _ _ hy3 (Av w) w (A1 w)) ?_)
 rintro v2 w a ⟨ad4,cap5,rfl,hQ⟩ hF
 replace hS:=hS.madeL hQ
 refine qn 1 4 [(3,sv ad4 y3 cap5)] hF fun a hF=>wfn rfl ?_
 refine Ak<|qoB [(9,.bool (p0.Kind==1))] hF (oL 3 1 0 hS.i rfl rfl<|A3) fun a hF=>?_
 refine A8 hF h (fun hc h=>?_) fun hc h=>?_
 ·refine esr<|ro 4 4 [(10,sv ad4 y3 cap5),(13,iv p0.Power.Hi)] hF (oL 3 1 2 hS.i rfl rfl<|A3) fun a hF=>?_
  obtain ⟨y7,hy7,h⟩:=A0 h
  refine SK.wi (qR (fun v6=>[(14,v6)]) hF (An F _ _ hy7 (Av w) w (A1 w)) ?_)
  rintro v6 w a ⟨ad8,cap9,rfl,hQ⟩ hF
  replace hS:=hS.madeL hQ
  obtain ⟨bC,bQ,h⟩:=A0 h
  refine SK.wi (qP 22 22 1 (fun b4 b6=>[(15,sv b4 bC b6)]) hF hS (hS.arr (i:=0) rfl) bQ rfl fun b4 b6 w a hF hS=>?_)
  refine rn 1 7 [(2,sv b4 bC b6)] hF fun a hF=>wfn rfl ?_
  refine wpIn_ret (A2<|A9 [.tmp 2] [_] hF rfl ⟨rfl,trivial⟩ ?_)
  obtain rfl:=Ai h
  exact ⟨_,rfl,_,_,rfl,St.pick [1] (by decide) hS⟩
 ·refine wK<|Ak ?_
  obtain ⟨a8,bX,h⟩:=A0 h
  obtain ⟨a9,bZ,h⟩:=A0 h
  obtain ⟨aA,c0,h⟩:=A0 h
  obtain ⟨aD,c1,h⟩:=A0 h
  obtain ⟨bM,c2,h⟩:=A0 h
  refine Bm 15 [3,6,9,12,13,14] _ (D:=fun w=>St w0 [arr 5 1 (fK .u8) ad4 y3.length cap5 y3,blk b1 149 p0.ar] w∧FrzAt μ w) kr kr hF.size (fun w hx=>?_) (fun _ _ h=>h)
  replace hS:=hS.later hx
  refine ⟨⟨St.pick [0,1] (by decide) hS,hS.frz (i:=2) rfl hlow⟩,?_⟩
  have a4:=Frz.le_refl μ
  refine WT.s [0,1,2,4,5,7,8,10,11] [3] kr kr ?_
  refine qC 9 [(16,sv ad4 y3 cap5),(18,.agg #[iv p0.Power.Lo,iv p0.Power.Hi]),(21,.agg #[iv p0.Ratio.Lo,iv p0.Ratio.Hi]),(24,.agg #[iv p0.Match.Lo,iv p0.Match.Hi]),(27,iv p0.Spread)] hF (oN 146 1 1 2 (fun _ hd=>hd.1) rfl<|oN 146 1 8 2 (fun _ hd=>hd.1) rfl<|oN 146 1 10 2 (fun _ hd=>hd.1) rfl<|oL 3 1 7 (fun _ hd=>hd.1) rfl rfl<|A3) fun a hF=>?_
  refine WRun.fin ?_
  refine all_cons ?_ (Am)
  refine qR (fun bI=>[(19,bI)]) hF (Ft F _ _ bX (Av w) w (A1 w)) ?_
  rintro bI w a ⟨aE,aH,rfl,hQ⟩ hF
  replace hS:=hS.madeL hQ
  refine ⟨⟨St.pick [1,2] (by decide) hS,(hS.frz (i:=3) rfl hlow)⟩,?_⟩
  refine WT.s [] [6] kr kr ?_
  refine WRun.fin ?_
  refine all_cons ?_ (Am)
  refine qR (fun bJ=>[(19,sv aE a8 aH),(22,bJ)]) hF (Ft F _ _ bZ (Av w) w (A1 w)) ?_
  rintro bJ w a ⟨aF,aI,rfl,hQ⟩ hF
  replace hS:=hS.madeL hQ
  refine ⟨⟨St.pick [2,3] (by decide) hS,(hS.frz (i:=4) rfl hlow)⟩,?_⟩
  refine WT.s [] [9] kr kr ?_
  refine WRun.fin ?_
  refine all_cons ?_ (Am)
  refine qR (fun bK=>[(22,sv aF a9 aI),(25,bK)]) hF (Ft F _ _ c0 (Av w) w (A1 w)) ?_
  rintro bK w a ⟨aG,aJ,rfl,hQ⟩ hF
  replace hS:=hS.madeL hQ
  refine ⟨⟨St.pick [3,4] (by decide) hS,(hS.frz (i:=5) rfl hlow)⟩,?_⟩
  refine WT.s [] [12] kr kr ?_
  refine WRun.fin ?_
  refine all_cons ?_ (Am)
  refine qR (fun bL=>[(25,sv aG aA aJ),(28,bL)]) hF (An F _ _ c1 (Av w) w (A1 w)) ?_
  rintro bL w a ⟨aR,aU,rfl,hQ⟩ hF
  replace hS:=hS.madeL hQ
  refine ⟨⟨St.pick [4,5] (by decide) hS,(hS.frz (i:=6) rfl hlow)⟩,?_⟩
  refine WT.s [] [13] kr kr ?_
  refine WRun.fin ?_
  refine all_cons ?_ (Am)
  obtain ⟨ν98,bB,hlow,hS,c3⟩:=hS.freeze (i:=6) (j:=3) rfl rfl (by decide) hlow
  replace a4:=a4.t bB.1
  replace hext:=hext.t bB
  have a0:=ArrM.of_arr c3
  obtain ⟨ν102,b8,hlow,hS,c4⟩:=hS.freeze (i:=5) (j:=2) rfl rfl (by decide) hlow
  replace a0:=a0.mono b8.1
  replace a4:=a4.t b8.1
  replace hext:=hext.t b8
  have a1:=ArrM.of_arr c4
  obtain ⟨ν106,b3,hlow,hS,c5⟩:=hS.freeze (i:=4) (j:=1) rfl rfl (by decide) hlow
  replace a0:=a0.mono b3.1
  replace a1:=a1.mono b3.1
  replace a4:=a4.t b3.1
  replace hext:=hext.t b3
  have a6:=ArrM.of_arr c5
  obtain ⟨ν110,aZ,hlow,hS,c6⟩:=hS.freeze (i:=3) (j:=0) rfl rfl (by decide) hlow
  replace a0:=a0.mono aZ.1
  replace a1:=a1.mono aZ.1
  replace a6:=a6.mono aZ.1
  replace a4:=a4.t aZ.1
  replace hext:=hext.t aZ
  replace hS:St w0 [arr 5 1 (fK .u8) ad4 y3.length cap5 y3,blk b1 149 p0.ar,fz w0 ν110] w:=hS
  have aK:=ArrM.of_arr c6
  have aL:All2 (Rp22 ν110) ([[sv aE a8 aH],[sv aF a9 aI],[sv aG aA aJ],[sv aR aD aU]]:List (List Value)) [a8,a9,aA,aD]:=(All2.cons ⟨aE,aH,rfl,a0⟩ (All2.cons ⟨aF,aI,rfl,a1⟩ (All2.cons ⟨aG,aJ,rfl,a6⟩ (All2.cons ⟨aR,aU,rfl,aK⟩ All2.nil))))
  refine Qf (e:=22) (sz:=1) (f:=fN 1) (t:=105) (len:=4) (fun b5=>[(1,pb b1),(3,sv ad4 y3 cap5),(16,sv ad4 y3 cap5),(29,sb b5 4)]) #[(0,sv aE a8 aH),(1,sv aF a9 aI),(2,sv aG aA aJ),(3,sv aR aD aU)] #[sv aE a8 aH,sv aF a9 aI,sv aG aA aJ,sv aR aD aU] ([[sv aE a8 aH],[sv aF a9 aI],[sv aG aA aJ],[sv aR aD aU]]:List (List Value)) ([a8,a9,aA,aD]) hF hS kr ⟨kr⟩ kr (Bt 1) rfl rfl rfl kr (fun _=>⟨kr⟩) fun b5 w a hF hS=>⟨⟨St.pick [1,2] (by decide) hS,(hS.frz (i:=3) rfl hlow).low a4⟩,?_⟩
  refine WT.s [] [14] kr kr ?_
  refine WRun.fin ?_
  refine all_cons ?_ (Am)
  refine rR (fun bD=>[(1,pb b1),(3,sv ad4 y3 cap5),(16,sv ad4 y3 cap5),(30,bD)]) hF (Gr F _ _ c2 (Av w) w (A1 w) (ArrQ.of_own (hS.arr (i:=0) rfl) aL Rp22.mono (FrzAt.le_mem (hS.frz (i:=3) rfl hlow)))) ?_
  rintro bD w a ⟨bN,bO,rfl,hQ⟩ hF
  replace hS:=hS.madeL hQ
  refine ⟨⟨St.pick [2,3] (by decide) hS,(hS.frz (i:=4) rfl hlow).low a4⟩,?_⟩
  refine WT.z [] kr ?_
  refine WRun.fin ?_
  obtain ⟨a5,bR,h⟩:=A0 h
  refine SK.wi (qP 22 22 2 (fun a2 a3=>[(31,sv a2 a5 a3)]) hF hS (hS.arr (i:=0) rfl) bR rfl fun a2 a3 w a hF hS=>?_)
  refine rn 1 17 [(1,pb b1),(3,sv a2 a5 a3)] hF fun a hF=>wfn rfl ?_
  refine Ak<|qoB [(34,.bool (p0.Kind==3))] hF (oL 3 3 0 hS.i rfl rfl<|A3) fun a hF=>?_
  refine A8 hF h (fun hc h=>?_) fun hc h=>?_
  ·obtain ⟨aN,bU,h⟩:=A0 h
   obtain ⟨aO,bV,h⟩:=A0 h
   obtain ⟨aV,bW,h⟩:=A0 h
   obtain ⟨cC,bY,h⟩:=A0 h
   refine Bm 14 [4,8,11,12,13] _ (D:=fun w=>St w0 [arr 5 1 (fK .u8) bN bM.length bO bM,arr 22 1 (fN 1) (some ⟨b5,0,none⟩) ([a8,a9,aA,aD]).length 4 ([[sv aE a8 aH],[sv aF a9 aI],[sv aG aA aJ],[sv aR aD aU]]:List (List Value)),arr 5 1 (fK .u8) a2 a5.length a3 a5,blk b1 149 p0.ar] w∧FrzAt ν110 w) kr kr hF.size (fun w hx=>?_) (fun _ _ h=>h)
   replace hS:=hS.later hx
   refine ⟨⟨St.pick [0,1,2,3] (by decide) hS,hS.frz (i:=4) rfl hlow⟩,?_⟩
   have aB:=Frz.le_refl ν110
   refine WT.s [0,1,2,3,5,6,7,9,10] [4] kr kr ?_
   refine qC 9 [(35,sv a2 a5 a3),(38,.agg #[iv p0.Steps.1.Lo,iv p0.Steps.1.Hi]),(42,.agg #[iv p0.Steps.2.Lo,iv p0.Steps.2.Hi]),(45,.agg #[iv p0.Turn.Lo,iv p0.Turn.Hi])] hF (oX (.run [] (Instr.indexAt 147 (.pointer (some ⟨b1,3,none⟩)) (iv 0)) (.pointer (some ⟨b1,3,none⟩))) (Bb kr)<|oN 146 3 3 2 (fun _ hd=>hd.1) rfl<|oX (.run [] (Instr.indexAt 147 (.pointer (some ⟨b1,3,none⟩)) (iv 1)) (.pointer (some ⟨b1,5,none⟩))) (Bb kr)<|oN 146 3 5 2 (fun _ hd=>hd.1) rfl<|oN 146 3 12 2 (fun _ hd=>hd.1) rfl<|A3) fun a hF=>?_
   refine WRun.fin ?_
   refine all_cons ?_ (Am)
   refine qR (fun bE=>[(39,bE)]) hF (Ft F _ _ bU (Av w) w (A1 w)) ?_
   rintro bE w a ⟨aP,aS,rfl,hQ⟩ hF
   replace hS:=hS.madeL hQ
   refine ⟨⟨St.pick [1,2,3,4] (by decide) hS,(hS.frz (i:=5) rfl hlow)⟩,?_⟩
   refine WT.s [] [8] kr kr ?_
   refine WRun.fin ?_
   refine all_cons ?_ (Am)
   refine qR (fun bF=>[(39,sv aP aN aS),(43,bF)]) hF (Ft F _ _ bV (Av w) w (A1 w)) ?_
   rintro bF w a ⟨aQ,aT,rfl,hQ⟩ hF
   replace hS:=hS.madeL hQ
   refine ⟨⟨St.pick [2,3,4,5] (by decide) hS,(hS.frz (i:=6) rfl hlow)⟩,?_⟩
   refine WT.s [] [11] kr kr ?_
   refine WRun.fin ?_
   refine all_cons ?_ (Am)
   refine qR (fun bG=>[(43,sv aQ aO aT),(46,bG)]) hF (Ft F _ _ bW (Av w) w (A1 w)) ?_
   rintro bG w a ⟨aW,aX,rfl,hQ⟩ hF
   replace hS:=hS.madeL hQ
   refine ⟨⟨St.pick [3,4,5,6] (by decide) hS,(hS.frz (i:=7) rfl hlow)⟩,?_⟩
   refine WT.s [] [12] kr kr ?_
   refine WRun.fin ?_
   refine all_cons ?_ (Am)
   obtain ⟨ν188,aM,hlow,hS,c7⟩:=hS.freeze (i:=7) (j:=2) rfl rfl (by decide) hlow
   replace a0:=a0.mono aM.1
   replace a1:=a1.mono aM.1
   replace a6:=a6.mono aM.1
   replace aK:=aK.mono aM.1
   replace aL:=All2.mono Rp22.mono aM.1 aL
   replace aB:=aB.t aM.1
   replace hext:=hext.t aM
   have aY:=ArrM.of_arr c7
   obtain ⟨ν192,aC,hlow,hS,c8⟩:=hS.freeze (i:=6) (j:=1) rfl rfl (by decide) hlow
   replace a0:=a0.mono aC.1
   replace a1:=a1.mono aC.1
   replace a6:=a6.mono aC.1
   replace aK:=aK.mono aC.1
   replace aL:=All2.mono Rp22.mono aC.1 aL
   replace aY:=aY.mono aC.1
   replace aB:=aB.t aC.1
   replace hext:=hext.t aC
   have b7:=ArrM.of_arr c8
   obtain ⟨ν196,a7,hlow,hS,c9⟩:=hS.freeze (i:=5) (j:=0) rfl rfl (by decide) hlow
   replace a0:=a0.mono a7.1
   replace a1:=a1.mono a7.1
   replace a6:=a6.mono a7.1
   replace aK:=aK.mono a7.1
   replace aL:=All2.mono Rp22.mono a7.1 aL
   replace aY:=aY.mono a7.1
   replace b7:=b7.mono a7.1
   replace aB:=aB.t a7.1
   replace hext:=hext.t a7
   have bP:=ArrM.of_arr c9
   have bT:All2 (Rp22 ν196) ([[sv aP aN aS],[sv aQ aO aT],[sv aW aV aX]]:List (List Value)) [aN,aO,aV]:=(All2.cons ⟨aP,aS,rfl,aY⟩ (All2.cons ⟨aQ,aT,rfl,b7⟩ (All2.cons ⟨aW,aX,rfl,bP⟩ All2.nil)))
   refine Qf (e:=22) (sz:=1) (f:=fN 1) (t:=105) (len:=3) (fun bA=>[(3,sv a2 a5 a3),(35,sv a2 a5 a3),(47,sb bA 3)]) #[(0,sv aP aN aS),(1,sv aQ aO aT),(2,sv aW aV aX)] #[sv aP aN aS,sv aQ aO aT,sv aW aV aX] ([[sv aP aN aS],[sv aQ aO aT],[sv aW aV aX]]:List (List Value)) ([aN,aO,aV]) hF hS kr ⟨kr⟩ kr (Bt 1) rfl rfl rfl kr (fun _=>⟨kr⟩) fun bA w a hF hS=>⟨⟨St.pick [1,2,3,4] (by decide) hS,(hS.frz (i:=5) rfl hlow).low aB⟩,?_⟩
   refine WT.s [] [13] kr kr ?_
   refine WRun.fin ?_
   refine all_cons ?_ (Am)
   refine rR (fun bH=>[(3,sv a2 a5 a3),(35,sv a2 a5 a3),(48,bH)]) hF (Gr F _ _ bY (Av w) w (A1 w) (ArrQ.of_own (hS.arr (i:=0) rfl) bT Rp22.mono (FrzAt.le_mem (hS.frz (i:=5) rfl hlow)))) ?_
   rintro bH w a ⟨cA,cB,rfl,hQ⟩ hF
   replace hS:=hS.madeL hQ
   refine ⟨⟨St.pick [2,3,4,5] (by decide) hS,(hS.frz (i:=6) rfl hlow).low aB⟩,?_⟩
   refine WT.z [] kr ?_
   refine WRun.fin ?_
   obtain ⟨b9,bS,h⟩:=A0 h
   refine SK.wi (qP 22 22 4 (fun b0 b2=>[(49,sv b0 b9 b2)]) hF hS (hS.arr (i:=0) rfl) bS rfl fun b0 b2 w a hF hS=>?_)
   refine rn 1 16 [(3,sv b0 b9 b2)] hF fun a hF=>wfn rfl ?_
   refine rnB [(2,sv b0 b9 b2)] hF fun a hF=>?_
   refine wpIn_ret (A9 [.tmp 2] [_] hF rfl ⟨rfl,trivial⟩ ?_)
   obtain rfl:=Ai h
   exact ⟨_,rfl,_,_,rfl,St.pick [4] (by decide) hS⟩
  ·refine wK<|rnB [(2,sv a2 a5 a3)] hF fun a hF=>?_
   refine wpIn_ret (A9 [.tmp 2] [_] hF rfl ⟨rfl,trivial⟩ ?_)
   obtain rfl:=Ai h
   exact ⟨_,rfl,_,_,rfl,St.pick [2] (by decide) hS⟩
theorem Tr (F:Nat) (p0:(List api_Span)) (res:(List Int)) (h:Jm F p0=some res) (μ:Frz) (w0:World) (hm:FrzAt μ w0) {ad1:Option Addr} {cap2:Nat} (hA3:ArrM μ 2 api_Span.cells ad1 cap2 p0):Bd Tryz.prog 108 #[sv ad1 p0 cap2] w0 (fun e w=>∃zad0 zcap0,e=(sv zad0 res zcap0)∧St w0 [arr 5 1 (fK .u8) zad0 res.length zcap0 res] w):=by
 obtain ⟨hlow,hS⟩:=hm.init
 have hext:=Frz.ext_refl w0.heap.size μ
 rw [Jm] at h
 refine feW Tryz.func108 55 [(0,sv ad1 p0 cap2)] hS fun a w hF hS=>?_
 refine qnB [] hF fun a hF=>?_
 refine qnB [(3,.slice none 0 0)] hF fun a hF=>?_
 refine esr<|qn 1 1 [(7,.agg #[iv 0,iv 0])] hF fun a hF=>?_
 refine SK.wi (qA 146 #[iv 0,iv 0] (fun b4=>[(4,pb b4)]) hF hS fun b4 w a hF hS=>?_)
 refine SK.wi (qw 146 0 #[iv 0,iv 0] hF hS rfl fun w a hF hS=>wfn rfl ?_)
 refine D4 (fun a w=>∃(aM:Int) (aN:Int) (a9:(List Int)) (aI:Option Addr) (aJ:Nat),Fr 55 [] [(3,sv aI a9 aJ)] a∧St w0 [arr 5 1 (fK .u8) aI a9.length aJ a9,blk b4 146 #[iv aM,iv aN],fz w0 μ] w∧Hd aM aN a9=some res) ?_ ?_
 ·skip
  refine qnB [(5,iv 0)] hF fun a hF=>?_
  refine wpIn_block ?_
  replace hS:=hS.nilarr 5 1 (fK .u8)
  refine Cc (fun n_ a w=>∃(a1:Int) (a2:Int) (a0:(List Int)) (a3:Int) (a4:Option Addr) (a5:Nat),Fr 55 [] [(0,sv ad1 p0 cap2),(3,sv a4 a0 a5),(4,pb b4),(5,iv a3)] a∧St w0 [arr 5 1 (fK .u8) a4 a0.length a5 a0,blk b4 146 #[iv a1,iv a2],fz w0 μ] w∧Ey F p0 n_ a1 a2 a0 a3=some res) F ⟨0,0,[],0,none,0,hF.sub kr,St.pick [0,1,2] (by decide) hS,h⟩ ?_
  rintro nk2 a w ⟨a1,a2,a0,a3,a4,a5,hF,hS,h⟩
  rcases nk2 with _|nk2
  ·cases (show (none:Option (List Int))=some res from h)
  obtain ⟨k2,hk2⟩:∃k,k=Ey F p0 nk2:=⟨_,rfl⟩
  replace h:Hc F p0 k2 a1 a2 a0 a3=some res:=by rw [hk2];exact h
  rw [Hc] at h
  refine Ak<|qnB [(11,.bool (decide (a3<(ln p0))))] hF fun a hF=>?_
  refine A8 hF h (fun hc h=>?_) fun hc h=>?_
  ·refine wK<|wpIn_block<|qnB [(6,iv 0)] hF fun a hF=>?_
   refine D4 (fun a w=>∃(aF:Int),Fr 55 [] [(0,sv ad1 p0 cap2),(3,sv a4 a0 a5),(4,pb b4),(5,iv a3),(6,iv aF)] a∧St w0 [arr 5 1 (fK .u8) a4 a0.length a5 a0,blk b4 146 #[iv a1,iv a2],fz w0 μ] w∧He F p0 a1 a2 a0 a3 k2 aF=some res) ?_ ?_
   ·skip
    refine wpIn_block<|Cc (fun n_ a w=>∃(aB:Int),Fr 55 [] [(0,sv ad1 p0 cap2),(3,sv a4 a0 a5),(4,pb b4),(5,iv a3),(6,iv aB)] a∧St w0 [arr 5 1 (fK .u8) a4 a0.length a5 a0,blk b4 146 #[iv a1,iv a2],fz w0 μ] w∧G8 F p0 a1 a2 a0 a3 k2 n_ aB=some res) F ⟨0,hF.sub kr,St.pick [0,1,2] (by decide) hS,h⟩ ?_
    rintro nk4 a w ⟨aB,hF,hS,h⟩
    rcases nk4 with _|nk4
    ·cases (show (none:Option (List Int))=some res from h)
    obtain ⟨k4,hk4⟩:∃k,k=G8 F p0 a1 a2 a0 a3 k2 nk4:=⟨_,rfl⟩
    replace h:K3 F p0 a1 a2 a0 a3 k2 k4 aB=some res:=by rw [hk4];exact h
    rw [K3] at h
    refine Ak<|Ak ?_
    obtain ⟨aG,b0,h⟩:=A0 h
    obtain ⟨aH,b1,h⟩:=A0 h
    obtain ⟨a6,aQ,h⟩:=A0 h
    refine qD 16 [(27,.bool (bif (decide (aG<(ln p0))) then (((a6.Lo:Int)==a1)&&(((a6.Hi:Int)==a2)&&true)) else false))] hF (oA 3 b0<|oX (.run [⟨18,true,(decide (aG<(ln p0)))⟩] (binOp .add 3 (iv a3) (iv aB)) (iv aH)) (Tj (fun hk=>Cs b1 hk))<|oX (.run [⟨18,true,(decide (aG<(ln p0)))⟩] (Instr.indexAt 44 (sv ad1 p0 cap2) (iv aH)) (.pointer (some (Bn ad1 aH 2)))) (Jy (hA3 _ (hS.frz (i:=2) rfl hlow)) kr (fun hk=>Cs aQ hk))<|oX (.run [⟨18,true,(decide (aG<(ln p0)))⟩] (Instr.loadAt 146 (.pointer (some (Bn ad1 aH 2)))) (.agg #[iv a6.Lo,iv a6.Hi])) (S0 (m:=2) (i:=aH) (us:=[iv a6.Lo,iv a6.Hi]) 0 api_Span.cells_len (fun _ hd=>(hA3 _ ((hS.later hd).frz (i:=2) rfl hlow))) kr (fun hk=>Cs aQ hk) ⟨rfl,rfl⟩)<|oGs [⟨18,true,(decide (aG<(ln p0)))⟩] (oN 146 1 0 2 hS.e rfl<|oX (.run [] (eqS .eql 146 #[iv a6.Lo,iv a6.Hi] #[iv a1,iv a2]) (.bool (((a6.Lo:Int)==a1)&&(((a6.Hi:Int)==a2)&&true)))) (L8 kr kr)<|A3)<|A3) fun a w hF hx=>?_
    replace hS:=hS.later hx
    refine wfn rfl ?_
    refine A8 hF h (fun hc h=>?_) fun hc h=>?_
    ·refine wK<|wpIn_block<|WI.region ?_
     obtain ⟨aV,b2,h⟩:=A0 h
     refine ro 3 3 [(0,sv ad1 p0 cap2),(3,sv a4 a0 a5),(4,pb b4),(5,iv a3),(6,iv aV)] hF (oA 3 b2<|A3) fun a hF=>WI.fin rfl (A7<|A4<|?_)
     rw [hk4] at h
     exact ⟨nk4,Nat.lt_succ_self _,aV,hF.sub kr,St.pick [0,1,2] (by decide) hS,h⟩
    ·refine wpIn_exit (A6<|A6<|Aq<|A4 ?_)
     exact ⟨aB,hF.sub kr,St.pick [0,1,2] (by decide) hS,h⟩
   rintro a w ⟨aF,hF,hS,h⟩
   rw [He] at h
   refine esr<|qn 2 2 [(30,sv a4 a0 a5),(31,iv aF)] hF fun a hF=>?_
   obtain ⟨bA,b3,h⟩:=A0 h
   refine SK.wi (qR (fun aS=>[(32,aS)]) hF (An F _ _ b3 (Av w) w (A1 w)) ?_)
   rintro aS w a ⟨b6,b8,rfl,hQ⟩ hF
   replace hS:=hS.madeL hQ
   obtain ⟨aE,aW,h⟩:=A0 h
   refine SK.wi (qP 22 22 1 (fun a7 a8=>[(33,sv a7 aE a8)]) hF hS (hS.arr (i:=0) rfl) aW rfl fun a7 a8 w a hF hS=>?_)
   refine rn 1 5 [(0,sv ad1 p0 cap2),(3,sv a7 aE a8),(4,pb b4),(5,iv a3),(6,iv aF)] hF fun a hF=>wfn rfl ?_
   refine esr ?_
   obtain ⟨aL,aY,h⟩:=A0 h
   refine ro 4 4 [(0,sv ad1 p0 cap2),(3,sv a7 aE a8),(4,pb b4),(5,iv aL)] hF (oA 3 aY<|A3) fun a hF=>wfn rfl ?_
   refine qnB [(40,.bool (decide (aL<(ln p0))))] hF fun a hF=>?_
   refine A8 hF h (fun hc h=>?_) fun hc h=>?_
   ·refine esr ?_
    obtain ⟨aR,aO,h⟩:=A0 h
    refine qo 5 5 [(41,sv a7 aE a8),(45,.agg #[iv aR.Lo,iv aR.Hi])] hF (oI 44 (hA3 _ (hS.frz (i:=3) rfl hlow)) aO<|oG 146 0 2 api_Span.cells_len (fun _ hd=>(hA3 _ ((hS.at_ hd).frz (i:=3) rfl hlow))) aO<|A3) fun a hF=>?_
    obtain ⟨bB,b5,h⟩:=A0 h
    refine SK.wi (qR (fun aT=>[(46,aT)]) hF (Ft F _ _ b5 (Av w) w (A1 w)) ?_)
    rintro aT w a ⟨b7,b9,rfl,hQ⟩ hF
    replace hS:=hS.madeL hQ
    obtain ⟨aK,aX,h⟩:=A0 h
    refine SK.wi (qP 22 22 2 (fun aC aD=>[(47,sv aC aK aD)]) hF hS (hS.arr (i:=0) rfl) aX rfl fun aC aD w a hF hS=>?_)
    refine rn 1 8 [(0,sv ad1 p0 cap2),(3,sv aC aK aD),(4,pb b4),(5,iv aL)] hF fun a hF=>wfn rfl ?_
    refine esr ?_
    obtain ⟨aA,aP,h⟩:=A0 h
    refine qo 4 4 [(51,.agg #[iv aA.Lo,iv aA.Hi])] hF (oI 44 (hA3 _ (hS.frz (i:=4) rfl hlow)) aP<|oG 146 0 2 api_Span.cells_len (fun _ hd=>(hA3 _ ((hS.at_ hd).frz (i:=4) rfl hlow))) aP<|A3) fun a hF=>?_
    refine SK.wi (qw 146 3 #[iv aA.Lo,iv aA.Hi] hF hS rfl fun w a hF hS=>wfn rfl ?_)
    refine WI.region ?_
    obtain ⟨aU,aZ,h⟩:=A0 h
    refine ro 3 3 [(0,sv ad1 p0 cap2),(3,sv aC aK aD),(4,pb b4),(5,iv aU)] hF (oA 3 aZ<|A3) fun a hF=>WI.fin rfl (A7<|A4<|?_)
    rw [hk2] at h
    exact ⟨nk2,Nat.lt_succ_self _,aA.Lo,aA.Hi,aK,aU,aC,aD,hF.sub kr,St.pick [2,3,4] (by decide) hS,h⟩
   ·refine wpIn_skip (A7<|A4<|?_)
    rw [hk2] at h
    exact ⟨nk2,Nat.lt_succ_self _,a1,a2,aE,aL,a7,a8,hF.sub kr,St.pick [1,2,3] (by decide) hS,h⟩
  ·refine wpIn_exit (A6<|A6<|Aq<|A4 ?_)
   exact ⟨a1,a2,a0,a4,a5,hF.sub kr,St.pick [0,1,2] (by decide) hS,h⟩
 rintro a w ⟨aM,aN,a9,aI,aJ,hF,hS,h⟩
 rw [Hd] at h
 refine rnB [(2,sv aI a9 aJ)] hF fun a hF=>?_
 refine wpIn_ret (A9 [.tmp 2] [_] hF rfl ⟨rfl,trivial⟩ ?_)
 obtain rfl:=Ai h
 exact ⟨_,rfl,_,_,rfl,St.pick [0] (by decide) hS⟩
end Go.Proofs.YtifbomimeodibaaGreat
