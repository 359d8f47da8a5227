import Derived.Test.YtifbomimeodibaaGreatV4XD
import Derived.Test.YtifbomimeodibaaGreatProg
import Derived.Test.YtifbomimeodibaaGreatV4XW0
import Derived.Test.YtifbomimeodibaaGreatV4XW8
import Derived.Test.YtifbomimeodibaaGreatV4XW13
import Derived.Test.YtifbomimeodibaaGreatV4XW14
import Derived.Test.YtifbomimeodibaaGreatV4XW15
namespace Go.Proofs.YtifbomimeodibaaGreat
open Go Go.RowKit Go.Eng
set_option maxRecDepth 10000
set_option maxHeartbeats 4000000
set_option linter.unusedVariables false
set_option linter.unusedSimpArgs false
theorem Tq (F:Nat) (p0:(List ref12_Item)) (res:((List Int)×Int)) (h:Jl F p0=some res) (μ:Frz) (w0:World) (hm:FrzAt μ w0) {ad1:Option Addr} {cap2:Nat} {css3:List (List Value)} (hA4:ArrQ μ 21 Rp49 ad1 cap2 css3 p0):Bd Tryz.prog 22 #[sv ad1 p0 cap2] w0 (fun e w=>∃zad0 zcap0,e=(.tuple #[sv zad0 res.1 zcap0,iv res.2])∧St w0 [arrT 5 1 (fK .u8) zad0 res.1.length zcap0 res.1] w):=by
 obtain ⟨hlow,hS⟩:=hm.init
 have hext:=Frz.ext_refl w0.heap.size μ
 rw [Jl] at h
 refine feW Tryz.func22 30 [(0,sv ad1 p0 cap2)] hS fun a w hF hS=>?_
 refine qnB [] hF fun a hF=>?_
 refine Ak<|qnB [(9,.bool (decide ((ln p0)>1000)))] hF fun a hF=>?_
 refine A8 hF h (fun hc h=>?_) fun hc h=>?_
 ·refine rnB [(2,.slice none 0 0),(3,iv 9)] hF fun a hF=>?_
  refine wpIn_ret (A2<|A9 [.tmp 2,.tmp 3] [_,_] hF rfl ⟨rfl,rfl,trivial⟩ ?_)
  obtain rfl:=Ai h
  replace hS:=hS.nilT 5 1 (fK .u8)
  exact ⟨_,rfl,_,_,rfl,St.pick [0] (by decide) hS⟩
 ·refine wK<|D4 (fun a w=>Fr 30 [] [(0,sv ad1 p0 cap2)] a∧St w0 [fz w0 μ] w∧Hb F p0=some res) ?_ ?_
  ·skip
   refine qnB [(4,iv 0)] hF fun a hF=>?_
   refine wpIn_block<|Cc (fun n_ a w=>∃(a0:Int),Fr 30 [] [(0,sv ad1 p0 cap2),(4,iv a0)] a∧St w0 [fz w0 μ] w∧G6 F p0 n_ a0=some res) F ⟨0,hF.sub kr,St.pick [0] (by decide) hS,h⟩ ?_
   rintro nk2 a w ⟨a0,hF,hS,h⟩
   rcases nk2 with _|nk2
   ·cases (show (none:Option ((List Int)×Int))=some res from h)
   obtain ⟨k2,hk2⟩:∃k,k=G6 F p0 nk2:=⟨_,rfl⟩
   replace h:K1 F p0 k2 a0=some res:=by rw [hk2];exact h
   rw [K1] at h
   refine Ak<|qnB [(13,.bool (decide (a0<(ln p0))))] hF fun a hF=>?_
   refine A8 hF h (fun hc h=>?_) fun hc h=>?_
   ·refine wK<|Ak<|wpIn_block<|esr ?_
    obtain ⟨aF,aB,h⟩:=A0 h
    obtain ⟨aK,a5,aA⟩:=B8 hA4.2 aB
    obtain ⟨aG,aI,aL,aH,aJ,rfl,a8,a9⟩:=aA
    obtain ⟨a2,aE,h⟩:=A0 h
    refine qx 6 6 [(5,iv a2)] hF (oI 28 (hA4.at (hS.frz (i:=0) rfl hlow)) a5<|oG 49 0 21 (Bt 21) (fun _ hd=>(hA4.at ((hS.later hd).frz (i:=0) rfl hlow))) a5<|oC (fun w2 hd=>Mc F aF _ aE _ w2 (A1 w2) (a8.mono Rp87.mono (FrzAt.le_mem ((hS.later hd).frz (i:=0) rfl hlow))) (a9.mono (FrzAt.le_mem ((hS.later hd).frz (i:=0) rfl hlow))))<|A3) fun a w hF hx=>?_
    replace hS:=hS.later hx
    refine wfn rfl ?_
    refine qnB [(22,.bool (a2 != 0))] hF fun a hF=>?_
    refine A8 hF h (fun hc h=>?_) fun hc h=>?_
    ·refine rnB [(2,.slice none 0 0),(3,iv a2)] hF fun a hF=>?_
     refine wpIn_ret (Ab<|A2<|A2<|Ab<|A2<|A9 [.tmp 2,.tmp 3] [_,_] hF rfl ⟨rfl,rfl,trivial⟩ ?_)
     obtain rfl:=Ai h
     replace hS:=hS.nilT 5 1 (fK .u8)
     exact ⟨_,rfl,_,_,rfl,St.pick [0] (by decide) hS⟩
    ·refine wpIn_skip (A7<|A4<|?_)
     refine WI.region ?_
     obtain ⟨a7,aC,h⟩:=A0 h
     refine ro 3 3 [(0,sv ad1 p0 cap2),(4,iv a7)] hF (oA 3 aC<|A3) fun a hF=>wfn rfl ?_
     rw [hk2] at h
     exact ⟨nk2,Nat.lt_succ_self _,a7,hF.sub kr,St.pick [0] (by decide) hS,h⟩
   ·refine wpIn_exit (A6<|A6<|Aq<|A4 ?_)
    exact ⟨hF.sub kr,St.pick [0] (by decide) hS,h⟩
  rintro a w ⟨hF,hS,h⟩
  rw [Hb] at h
  refine esr<|rn 1 1 [(24,sv ad1 p0 cap2)] hF fun a hF=>?_
  obtain ⟨a1,aD,h⟩:=A0 h
  refine SK.wi (rR (fun a6=>[(25,a6)]) hF (U8 F _ _ aD (Av w) w (A1 w) (hA4.mono Rp49.mono (FrzAt.le_mem (hS.frz (i:=0) rfl hlow)))) ?_)
  rintro a6 w a ⟨a3,a4,rfl,hQ⟩ hF
  replace hS:=hS.madeL hQ
  refine rn 1 3 [(6,sv a3 a1 a4)] hF fun a hF=>wfn rfl ?_
  refine Ak<|qnB [(28,.bool (decide ((ln a1)>16777216)))] hF fun a hF=>?_
  refine A8 hF h (fun hc h=>?_) fun hc h=>?_
  ·refine rnB [(2,.slice none 0 0),(3,iv 8)] hF fun a hF=>?_
   refine wpIn_ret (A2<|A9 [.tmp 2,.tmp 3] [_,_] hF rfl ⟨rfl,rfl,trivial⟩ ?_)
   obtain rfl:=Ai h
   replace hS:=hS.nilT 5 1 (fK .u8)
   exact ⟨_,rfl,_,_,rfl,St.pick [0] (by decide) hS⟩
  ·refine wK<|rnB [(2,sv a3 a1 a4),(3,iv 0)] hF fun a hF=>?_
   refine wpIn_ret (A9 [.tmp 2,.tmp 3] [_,_] hF rfl ⟨rfl,rfl,trivial⟩ ?_)
   obtain rfl:=Ai h
   exact ⟨_,rfl,_,_,rfl,St.pick [0] (by decide) hS⟩
theorem P4 (F:Nat) (p0:(List ref12_Item)) (res:Bool) (h:Ex F p0=some res) (μ:Frz) (w0:World) (hm:FrzAt μ w0) {ad1:Option Addr} {cap2:Nat} {css3:List (List Value)} (hA4:ArrQ μ 21 Rp49 ad1 cap2 css3 p0):Calls Tryz.prog 4 #[sv ad1 p0 cap2] w0 (fun e w=>e=.returned (.bool res)∧Ext w0 w):=by
 obtain ⟨hlow,hS⟩:=hm.init
 have hext:=Frz.ext_refl w0.heap.size μ
 rw [Ex] at h
 refine feW Tryz.func4 82 [(0,sv ad1 p0 cap2)] hS fun a w hF hS=>?_
 refine qnB [] hF fun a hF=>?_
 refine Ak<|esr ?_
 obtain ⟨y5,hy5,h⟩:=A0 h
 refine qx 3 3 [(14,.bool (!y5))] hF (oC (fun w2 hd=>Si F p0 _ hy5 _ w2 (A1 w2) (hA4.mono Rp49.mono (FrzAt.le_mem ((hS.later hd).frz (i:=0) rfl hlow))))<|A3) fun a w hF hx=>?_
 replace hS:=hS.later hx
 refine wfn rfl ?_
 refine A8 hF h (fun hc h=>?_) fun hc h=>?_
 ·refine esr ?_
  obtain ⟨y6,hy6,h⟩:=A0 h
  refine rX 2 2 [(2,.bool y6)] hF (oC (fun w2 hd=>Pf F  _ hy6 _ w2 (A1 w2))<|A3) fun a w hF hx=>?_
  replace hS:=hS.later hx
  refine wfn rfl ?_
  refine wpIn_ret (A2<|A9 [.tmp 2] [_] hF rfl ⟨rfl,trivial⟩ ?_)
  obtain rfl:=Ai h
  exact ⟨rfl,hS.ext⟩
 ·refine wK<|D4 (fun a w=>Fr 82 [] [(0,sv ad1 p0 cap2)] a∧St w0 [fz w0 μ] w∧Dw F p0=some res) ?_ ?_
  ·skip
   refine qnB [(3,iv 0)] hF fun a hF=>?_
   refine wpIn_block<|Cc (fun n_ a w=>∃(a4:Int),Fr 82 [] [(0,sv ad1 p0 cap2),(3,iv a4)] a∧St w0 [fz w0 μ] w∧D0 F p0 n_ a4=some res) F ⟨0,hF.sub kr,St.pick [0] (by decide) hS,h⟩ ?_
   rintro nk2 a w ⟨a4,hF,hS,h⟩
   rcases nk2 with _|nk2
   ·cases (show (none:Option Bool)=some res from h)
   obtain ⟨k2,hk2⟩:∃k,k=D0 F p0 nk2:=⟨_,rfl⟩
   replace h:F3 F p0 k2 a4=some res:=by rw [hk2];exact h
   rw [F3] at h
   refine Ak<|qnB [(19,.bool (decide (a4<(ln p0))))] hF fun a hF=>?_
   refine A8 hF h (fun hc h=>?_) fun hc h=>?_
   ·refine wK<|Ak<|wpIn_block<|esr ?_
    obtain ⟨bV,bG,h⟩:=A0 h
    obtain ⟨cA,a9,bB⟩:=B8 hA4.2 bG
    obtain ⟨aP,aX,cF,aQ,aY,rfl,b3,b4⟩:=bB
    refine qo 4 4 [(26,.agg (bV.ax aP aX aQ aY))] hF (oI 28 (hA4.at (hS.frz (i:=0) rfl hlow)) a9<|oG 49 0 21 (Bt 21) (fun _ hd=>(hA4.at ((hS.at_ hd).frz (i:=0) rfl hlow))) a9<|A3) fun a hF=>?_
    obtain ⟨a0,bR,h⟩:=A0 h
    refine SK.wi (qR (fun aH=>[(27,aH)]) hF (Mf F _ _ bR (Av w) w (A1 w) (b3.mono Rp87.mono (FrzAt.le_mem (hS.frz (i:=0) rfl hlow))) (b4.mono (FrzAt.le_mem (hS.frz (i:=0) rfl hlow)))) ?_)
    rintro aH w a ⟨aR,aZ,rfl,hQ⟩ hF
    replace hS:=hS.madeL hQ
    refine qn 5 10 [(4,sv aR a0.1 aZ),(5,iv a0.2)] hF fun a hF=>wfn rfl ?_
    refine esr ?_
    obtain ⟨bW,bH,h⟩:=A0 h
    obtain ⟨cB,aA,bC⟩:=B8 hA4.2 bH
    obtain ⟨aS,b0,cG,aT,b1,rfl,b5,b6⟩:=bC
    refine qo 4 4 [(34,.agg (bW.ax aS b0 aT b1))] hF (oI 28 (hA4.at (hS.frz (i:=1) rfl hlow)) aA<|oG 49 0 21 (Bt 21) (fun _ hd=>(hA4.at ((hS.at_ hd).frz (i:=1) rfl hlow))) aA<|A3) fun a hF=>?_
    obtain ⟨a1,bS,h⟩:=A0 h
    refine SK.wi (qR (fun aI=>[(35,aI)]) hF (U5 F _ _ bS (Av w) w (A1 w) (b5.mono Rp87.mono (FrzAt.le_mem (hS.frz (i:=1) rfl hlow))) (b6.mono (FrzAt.le_mem (hS.frz (i:=1) rfl hlow)))) ?_)
    rintro aI w a ⟨aU,b2,rfl,hQ⟩ hF
    replace hS:=hS.madeL hQ
    refine qn 5 10 [(6,sv aU a1.1 b2),(7,iv a1.2)] hF fun a hF=>wfn rfl ?_
    refine Ak ?_
    obtain ⟨a2,aD,h⟩:=A0 h
    rcases Bool.eq_false_or_eq_true ((bif (!a2) then true else (a0.2 != a1.2))) with a3|a3
    ·replace h:=Jq h a3
     refine qD 22 [(59,.bool (bif (bif (!a2) then true else (a0.2 != a1.2)) then true else (0 != 0)))] hF (oC (fun w2 hd=>H5 F a0.1 a1.1 _ aD _ w2 (A1 w2) (Arr.toM ((hS.later hd).arr (i:=1) rfl)) (Arr.toM ((hS.later hd).arr (i:=0) rfl)))<|oX (.run [⟨47,false,(bif (!a2) then true else (a0.2 != a1.2))⟩] (Instr.indexAt 28 (sv ad1 p0 cap2) (iv a4)) (pb 0)) (Wf (Hv (i:=0) (c:=⟨47,false,(bif (!a2) then true else (a0.2 != a1.2))⟩) rfl (show ((bif (!a2) then true else (a0.2 != a1.2))==false)=false by rw [a3];rfl)))<|oX (.run [⟨47,false,(bif (!a2) then true else (a0.2 != a1.2))⟩] (Instr.loadAt 49 (pb 0)) (.agg z48)) (Wf (Hv (i:=0) (c:=⟨47,false,(bif (!a2) then true else (a0.2 != a1.2))⟩) rfl (show ((bif (!a2) then true else (a0.2 != a1.2))==false)=false by rw [a3];rfl)))<|oX (.call [⟨47,false,(bif (!a2) then true else (a0.2 != a1.2))⟩] 19 #[.agg z48] (iv 0)) (Yr (Hv (i:=0) (c:=⟨47,false,(bif (!a2) then true else (a0.2 != a1.2))⟩) rfl (show ((bif (!a2) then true else (a0.2 != a1.2))==false)=false by rw [a3];rfl)))<|oX (.run [⟨47,false,(bif (!a2) then true else (a0.2 != a1.2))⟩] (Instr.indexAt 28 (sv ad1 p0 cap2) (iv a4)) (pb 0)) (Wf (Hv (i:=0) (c:=⟨47,false,(bif (!a2) then true else (a0.2 != a1.2))⟩) rfl (show ((bif (!a2) then true else (a0.2 != a1.2))==false)=false by rw [a3];rfl)))<|oX (.run [⟨47,false,(bif (!a2) then true else (a0.2 != a1.2))⟩] (Instr.loadAt 49 (pb 0)) (.agg z48)) (Wf (Hv (i:=0) (c:=⟨47,false,(bif (!a2) then true else (a0.2 != a1.2))⟩) rfl (show ((bif (!a2) then true else (a0.2 != a1.2))==false)=false by rw [a3];rfl)))<|oX (.call [⟨47,false,(bif (!a2) then true else (a0.2 != a1.2))⟩] 20 #[.agg z48] (iv 0)) (Yr (Hv (i:=0) (c:=⟨47,false,(bif (!a2) then true else (a0.2 != a1.2))⟩) rfl (show ((bif (!a2) then true else (a0.2 != a1.2))==false)=false by rw [a3];rfl)))<|A3) fun a w hF hx=>?_
     replace hS:=hS.later hx
     refine wfn rfl ?_
     refine A8 hF h (fun hc h=>?_) fun hc h=>?_
     ·refine rnB [(2,.bool false)] hF fun a hF=>?_
      refine wpIn_ret (Ab<|A2<|A2<|Ab<|A2<|A9 [.tmp 2] [_] hF rfl ⟨rfl,trivial⟩ ?_)
      obtain rfl:=Ai h
      exact ⟨rfl,hS.ext⟩
     ·refine wpIn_skip (A7<|A4<|?_)
      refine WI.region ?_
      obtain ⟨aJ,bK,h⟩:=A0 h
      refine ro 3 3 [(0,sv ad1 p0 cap2),(3,iv aJ)] hF (oA 3 bK<|A3) fun a hF=>wfn rfl ?_
      rw [hk2] at h
      exact ⟨nk2,Nat.lt_succ_self _,aJ,hF.sub kr,St.pick [2] (by decide) hS,h⟩
    ·replace h:=Jp h a3
     obtain ⟨a5,bI,h⟩:=A0 h
     obtain ⟨cC,aB,bD⟩:=B8 hA4.2 bI
     obtain ⟨c1,c6,cH,c2,c7,rfl,b7,b8⟩:=bD
     obtain ⟨bY,bT,h⟩:=A0 h
     obtain ⟨bX,bJ,h⟩:=A0 h
     obtain ⟨cD,aC,bE⟩:=B8 hA4.2 bJ
     obtain ⟨c3,c8,cI,c4,c9,rfl,b9,bA⟩:=bE
     obtain ⟨bZ,bU,h⟩:=A0 h
     refine qD 22 [(59,.bool (bif (bif (!a2) then true else (a0.2 != a1.2)) then true else (bY != bZ)))] hF (oC (fun w2 hd=>H5 F a0.1 a1.1 _ aD _ w2 (A1 w2) (Arr.toM ((hS.later hd).arr (i:=1) rfl)) (Arr.toM ((hS.later hd).arr (i:=0) rfl)))<|oGs [⟨47,false,(bif (!a2) then true else (a0.2 != a1.2))⟩] (oI 28 (hA4.at (hS.frz (i:=2) rfl hlow)) aB<|oG 49 0 21 (Bt 21) (fun _ hd=>(hA4.at ((hS.later hd).frz (i:=2) rfl hlow))) aB<|oC (fun w2 hd=>Sm F (volume_Item.mk a5.Kind a5.Name a5.Time a5.Sweep a5.Field a5.Text) _ bT _ w2 (A1 w2) (b7.mono Rp87.mono (FrzAt.le_mem ((hS.later hd).frz (i:=2) rfl hlow))) (b8.mono (FrzAt.le_mem ((hS.later hd).frz (i:=2) rfl hlow))))<|oI 28 (hA4.at (hS.frz (i:=2) rfl hlow)) aC<|oG 49 0 21 (Bt 21) (fun _ hd=>(hA4.at ((hS.later hd).frz (i:=2) rfl hlow))) aC<|oC (fun w2 hd=>Mc F bX _ bU _ w2 (A1 w2) (b9.mono Rp87.mono (FrzAt.le_mem ((hS.later hd).frz (i:=2) rfl hlow))) (bA.mono (FrzAt.le_mem ((hS.later hd).frz (i:=2) rfl hlow))))<|A3)<|A3) fun a w hF hx=>?_
     replace hS:=hS.later hx
     refine wfn rfl ?_
     refine A8 hF h (fun hc h=>?_) fun hc h=>?_
     ·refine rnB [(2,.bool false)] hF fun a hF=>?_
      refine wpIn_ret (Ab<|A2<|A2<|Ab<|A2<|A9 [.tmp 2] [_] hF rfl ⟨rfl,trivial⟩ ?_)
      obtain rfl:=Ai h
      exact ⟨rfl,hS.ext⟩
     ·refine wpIn_skip (A7<|A4<|?_)
      refine WI.region ?_
      obtain ⟨aK,bL,h⟩:=A0 h
      refine ro 3 3 [(0,sv ad1 p0 cap2),(3,iv aK)] hF (oA 3 bL<|A3) fun a hF=>wfn rfl ?_
      rw [hk2] at h
      exact ⟨nk2,Nat.lt_succ_self _,aK,hF.sub kr,St.pick [2] (by decide) hS,h⟩
   ·refine wpIn_exit (A6<|A6<|Aq<|A4 ?_)
    exact ⟨hF.sub kr,St.pick [0] (by decide) hS,h⟩
  rintro a w ⟨hF,hS,h⟩
  rw [Dw] at h
  refine esr<|qn 1 1 [(61,sv ad1 p0 cap2)] hF fun a hF=>?_
  obtain ⟨cJ,bM,h⟩:=A0 h
  refine SK.wi (qR (fun aE=>[(62,aE)]) hF (U1 F _ _ bM μ w (hS.frz (i:=0) rfl hlow) hA4) ?_)
  rintro aE w a ⟨ν186,c0,c5,cE,a8,rfl,bF,hQ⟩ hF
  replace hext:=hext.t (Frz.ext_mono a8 hS.ext.size)
  obtain ⟨hlow,hS⟩:=hS.frzMerge (i:=0) rfl hlow a8 hQ
  replace hA4:=hA4.mono Rp49.mono a8.1
  obtain ⟨a6,bN,h⟩:=A0 h
  refine SK.wi (qR (fun aF=>[(63,aF)]) hF (P2 F _ _ bN (Av w) w (A1 w) (ArrQ.of_own (hS.arr (i:=0) rfl) bF Rp48.mono (FrzAt.le_mem (hS.frz (i:=1) rfl hlow)))) ?_)
  rintro aF w a ⟨aN,aV,rfl,hQ⟩ hF
  replace hS:=hS.madeL hQ
  refine qn 5 8 [(8,sv aN a6.1 aV),(9,iv a6.2)] hF fun a hF=>wfn rfl ?_
  refine esr<|qn 1 1 [(67,sv ad1 p0 cap2)] hF fun a hF=>?_
  obtain ⟨a7,bO,h⟩:=A0 h
  refine SK.wi (qR (fun aG=>[(68,aG)]) hF (Tq F _ _ bO (Av w) w (A1 w) (hA4.mono Rp49.mono (FrzAt.le_mem (hS.frz (i:=2) rfl hlow)))) ?_)
  rintro aG w a ⟨aO,aW,rfl,hQ⟩ hF
  replace hS:=hS.madeL hQ
  refine qn 5 7 [(10,sv aO a7.1 aW),(11,iv a7.2)] hF fun a hF=>wfn rfl ?_
  refine esr ?_
  obtain ⟨aL,bP,h⟩:=A0 h
  obtain ⟨aM,bQ,h⟩:=A0 h
  refine rX 12 12 [(2,.bool (bif (bif aL then (a6.2==a7.2) else false) then aM else false))] hF (oC (fun w2 hd=>H5 F a6.1 a7.1 _ bP _ w2 (A1 w2) (Arr.toM ((hS.later hd).arrT_ (i:=1) rfl)) (Arr.toM ((hS.later hd).arrT_ (i:=0) rfl)))<|oX (.call [⟨79,true,(bif aL then (a6.2==a7.2) else false)⟩] 8 #[] (.bool aM)) (show Ob.ok _ Ext _ _ from fun hk w2 hd=>Pf F  _ ((fun hk=>Cs bQ hk) hk) _ w2 (A1 w2))<|A3) fun a w hF hx=>?_
  replace hS:=hS.later hx
  refine wfn rfl ?_
  refine wpIn_ret (A9 [.tmp 2] [_] hF rfl ⟨rfl,trivial⟩ ?_)
  obtain rfl:=Ai h
  exact ⟨rfl,hS.ext⟩
end Go.Proofs.YtifbomimeodibaaGreat
