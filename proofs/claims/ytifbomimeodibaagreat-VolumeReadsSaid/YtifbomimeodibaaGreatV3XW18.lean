import Derived.Test.YtifbomimeodibaaGreatV3XD
import Derived.Test.YtifbomimeodibaaGreatProg
import Derived.Test.YtifbomimeodibaaGreatV3XW0
import Derived.Test.YtifbomimeodibaaGreatV3XW5
import Derived.Test.YtifbomimeodibaaGreatV3XW14
import Derived.Test.YtifbomimeodibaaGreatV3XW15
import Derived.Test.YtifbomimeodibaaGreatV3XW16
import Derived.Test.YtifbomimeodibaaGreatV3XW17
namespace Go.Proofs.YtifbomimeodibaaGreat
open Go Go.RowKit Go.Eng
set_option maxRecDepth 10000
set_option maxHeartbeats 4000000
set_option linter.unusedVariables false
set_option linter.unusedSimpArgs false
theorem Pr (F:Nat) (p0:(List Int)) (res:Bool) (h:G8 F p0=some res) (μ:Frz) (w0:World) (hm:FrzAt μ w0) {ad1:Option Addr} {cap2:Nat} (hA3:ArrM μ 1 (fK .u8) ad1 cap2 p0):Calls Tryz.prog 3 #[sv ad1 p0 cap2] w0 (fun e w=>e=.returned (.bool res)∧Ext w0 w):=by
 obtain ⟨hlow,hS⟩:=hm.init
 have hext:=Frz.ext_refl w0.heap.size μ
 rw [G8] at h
 refine Ah Tryz.func3 rfl 69 [(0,sv ad1 p0 cap2)] rfl rfl kr fun a w hw hF=>?_
 replace hS:=hS.cast hw
 clear hw
 refine qnB [] hF fun a hF=>?_
 refine Ar ?_
 refine qnB [(11,.bool (decide ((ln p0)>3000)))] hF fun a hF=>?_
 refine Ai hF rfl (fun hc=>?_) (fun hc=>?_)
 ·replace h:=Ag h hc
  refine esr ?_
  obtain ⟨y4,hy4,h⟩:=A1 h
  refine rX 2 2 [(2,.bool y4)] hF (oC (fun w2 hd=>Pu F  _ hy4 _ w2 (Ae w2))<|A9) fun a w hF hx=>?_
  replace hS:=hS.later hx
  refine wfn rfl ?_
  refine wpIn_ret (A5<|Ab [.tmp 2] [.bool y4] hF rfl ⟨rfl,trivial⟩ ?_)
  obtain rfl:=Ao h
  exact ⟨rfl,hS.ext⟩
 ·replace h:=Af h hc
  refine wpIn_skip (A0 ?_)
  refine esr ?_
  refine qn 1 1 [(14,sv ad1 p0 cap2)] hF fun a hF=>?_
  obtain ⟨y6,hy6,h⟩:=A1 h
  refine SK.wi (qR (fun v5=>[(15,v5)]) hF (Gz F _ _ hy6 μ w (hS.frz (i:=0) rfl hlow) hA3) ?_)
  rintro v5 w a ⟨ν7,ad9,aM,bD,hx8,rfl,a0,hQ⟩ hF
  replace hext:=Frz.ext_trans hext (Frz.ext_mono hx8 hS.ext.size)
  obtain ⟨hlow,hS⟩:=hS.frzMerge (i:=0) rfl hlow hx8 hQ
  replace hA3:=hA3.mono hx8.1
  refine qn 7 9 [(3,sv ad9 y6.1 aM),(4,iv y6.2.1),(5,iv y6.2.2)] hF fun a hF=>?_
  refine wfn rfl ?_
  refine esr ?_
  refine qn 1 1 [(20,sv ad1 p0 cap2)] hF fun a hF=>?_
  obtain ⟨a5,aW,h⟩:=A1 h
  refine SK.wi (qR (fun aQ=>[(21,aQ)]) hF (U0 F _ _ aW ν7 w (hS.frz (i:=1) rfl hlow) hA3) ?_)
  rintro aQ w a ⟨ν15,aJ,aN,bE,aC,rfl,aF,hQ⟩ hF
  replace hext:=Frz.ext_trans hext (Frz.ext_mono aC hS.ext.size)
  obtain ⟨hlow,hS⟩:=hS.frzMerge (i:=1) rfl hlow aC hQ
  replace hA3:=hA3.mono aC.1
  replace a0:=All2.mono Rp48.mono aC.1 a0
  refine qn 7 9 [(6,sv aJ a5.1 aN),(7,iv a5.2.1),(8,iv a5.2.2)] hF fun a hF=>?_
  refine wfn rfl ?_
  refine Ar ?_
  refine esr ?_
  refine rn 2 2 [(0,sv ad1 p0 cap2),(4,iv y6.2.1),(5,iv y6.2.2),(7,iv a5.2.1),(8,iv a5.2.2),(25,sv ad9 y6.1 aM),(26,sv aJ a5.1 aN)] hF fun a hF=>?_
  obtain ⟨ν21,aD,hlow,hS,b4⟩:=hS.freeze (i:=2) (j:=0) rfl rfl (by decide) hlow
  replace hA3:=hA3.mono aD.1
  replace a0:=All2.mono Rp48.mono aD.1 a0
  replace aF:=All2.mono Rp49.mono aD.1 aF
  replace hext:=Frz.ext_trans hext aD
  have a3:=ArrQ.of_arr (l:=a5.1) b4 aF Rp49.mono (Frz.le_refl _)
  obtain ⟨b6,aX,h⟩:=A1 h
  refine SK.wi (qR (fun aR=>[(27,aR)]) hF (Qo F _ _ aX ν21 w (hS.frz (i:=1) rfl hlow) a3) ?_)
  rintro aR w a ⟨ν27,b9,bB,bF,aB,rfl,a4,hQ⟩ hF
  replace hext:=Frz.ext_trans hext (Frz.ext_mono aB hS.ext.size)
  obtain ⟨hlow,hS⟩:=hS.frzMerge (i:=1) rfl hlow aB hQ
  replace hA3:=hA3.mono aB.1
  replace a0:=All2.mono Rp48.mono aB.1 a0
  replace a3:=a3.mono Rp49.mono aB.1
  obtain ⟨b7,aY,h⟩:=A1 h
  refine rX 12 15 [(0,sv ad1 p0 cap2),(39,.bool (bif (bif (!b7) then true else (y6.2.1 != a5.2.1)) then true else (y6.2.2 != a5.2.2)))] hF (oC (fun w2 hd=>Pt F y6.1 b6 _ aY _ w2 (Ae w2) (ArrQ.of_own ((hS.later hd).arr (i:=1) rfl) a0 Rp48.mono (FrzAt.le_mem ((hS.later hd).frz (i:=2) rfl hlow))) (ArrQ.of_own ((hS.later hd).arr (i:=0) rfl) a4 Rp48.mono (FrzAt.le_mem ((hS.later hd).frz (i:=2) rfl hlow))))<|A9) fun a w hF hx=>?_
  replace hS:=hS.later hx
  refine wfn rfl ?_
  refine Ai hF rfl (fun hc=>?_) (fun hc=>?_)
  ·replace h:=Ag h hc
   refine rnB [(2,.bool false)] hF fun a hF=>?_
   refine wpIn_ret (A5<|Ab [.tmp 2] [.bool false] hF rfl ⟨rfl,trivial⟩ ?_)
   obtain rfl:=Ao h
   exact ⟨rfl,hS.ext⟩
  ·replace h:=Af h hc
   refine wpIn_skip (A0 ?_)
   refine esr ?_
   refine qn 1 1 [(41,sv ad1 p0 cap2)] hF fun a hF=>?_
   obtain ⟨a1,aZ,h⟩:=A1 h
   refine SK.wi (qR (fun aS=>[(42,aS)]) hF (Mz F _ _ aZ ν27 w (hS.frz (i:=2) rfl hlow) hA3) ?_)
   rintro aS w a ⟨ν36,aK,aO,bG,aA,rfl,a7,hQ⟩ hF
   replace hext:=Frz.ext_trans hext (Frz.ext_mono aA hS.ext.size)
   obtain ⟨hlow,hS⟩:=hS.frzMerge (i:=2) rfl hlow aA hQ
   replace hA3:=hA3.mono aA.1
   replace a0:=All2.mono Rp48.mono aA.1 a0
   replace a3:=a3.mono Rp49.mono aA.1
   replace a4:=All2.mono Rp48.mono aA.1 a4
   refine qn 7 9 [(3,sv aK a1.1 aO),(4,iv a1.2.1),(5,iv a1.2.2)] hF fun a hF=>?_
   refine wfn rfl ?_
   refine esr ?_
   refine qn 1 1 [(47,sv ad1 p0 cap2)] hF fun a hF=>?_
   obtain ⟨a2,b0,h⟩:=A1 h
   refine SK.wi (qR (fun aT=>[(48,aT)]) hF (S7 F _ _ b0 ν36 w (hS.frz (i:=3) rfl hlow) hA3) ?_)
   rintro aT w a ⟨ν44,aL,aP,bH,a8,rfl,aG,hQ⟩ hF
   replace hext:=Frz.ext_trans hext (Frz.ext_mono a8 hS.ext.size)
   obtain ⟨hlow,hS⟩:=hS.frzMerge (i:=3) rfl hlow a8 hQ
   replace hA3:=hA3.mono a8.1
   replace a0:=All2.mono Rp48.mono a8.1 a0
   replace a3:=a3.mono Rp49.mono a8.1
   replace a4:=All2.mono Rp48.mono a8.1 a4
   replace a7:=All2.mono Rp48.mono a8.1 a7
   refine qn 7 9 [(6,sv aL a2.1 aP),(7,iv a2.2.1),(8,iv a2.2.2)] hF fun a hF=>?_
   refine wfn rfl ?_
   refine esr ?_
   refine rn 2 2 [(4,iv a1.2.1),(5,iv a1.2.2),(7,iv a2.2.1),(8,iv a2.2.2),(52,sv aK a1.1 aO),(53,sv aL a2.1 aP)] hF fun a hF=>?_
   obtain ⟨ν50,a9,hlow,hS,b5⟩:=hS.freeze (i:=4) (j:=0) rfl rfl (by decide) hlow
   replace hA3:=hA3.mono a9.1
   replace a0:=All2.mono Rp48.mono a9.1 a0
   replace a3:=a3.mono Rp49.mono a9.1
   replace a4:=All2.mono Rp48.mono a9.1 a4
   replace a7:=All2.mono Rp48.mono a9.1 a7
   replace aG:=All2.mono Rp49.mono a9.1 aG
   replace hext:=Frz.ext_trans hext a9
   have aE:=ArrQ.of_arr (l:=a2.1) b5 aG Rp49.mono (Frz.le_refl _)
   obtain ⟨b8,b1,h⟩:=A1 h
   refine SK.wi (qR (fun aU=>[(54,aU)]) hF (Qo F _ _ b1 ν50 w (hS.frz (i:=3) rfl hlow) aE) ?_)
   rintro aU w a ⟨ν56,bA,bC,bI,a6,rfl,aV,hQ⟩ hF
   replace hext:=Frz.ext_trans hext (Frz.ext_mono a6 hS.ext.size)
   obtain ⟨hlow,hS⟩:=hS.frzMerge (i:=3) rfl hlow a6 hQ
   replace hA3:=hA3.mono a6.1
   replace a0:=All2.mono Rp48.mono a6.1 a0
   replace a3:=a3.mono Rp49.mono a6.1
   replace a4:=All2.mono Rp48.mono a6.1 a4
   replace a7:=All2.mono Rp48.mono a6.1 a7
   replace aE:=aE.mono Rp49.mono a6.1
   obtain ⟨aH,b2,h⟩:=A1 h
   obtain ⟨aI,b3,h⟩:=A1 h
   refine rX 15 18 [(2,.bool (bif (bif (bif aH then (a1.2.1==a2.2.1) else false) then (a1.2.2==a2.2.2) else false) then aI else false))] hF (oC (fun w2 hd=>Pt F a1.1 b8 _ b2 _ w2 (Ae w2) (ArrQ.of_own ((hS.later hd).arr (i:=1) rfl) a7 Rp48.mono (FrzAt.le_mem ((hS.later hd).frz (i:=4) rfl hlow))) (ArrQ.of_own ((hS.later hd).arr (i:=0) rfl) aV Rp48.mono (FrzAt.le_mem ((hS.later hd).frz (i:=4) rfl hlow))))<|oX (.call [⟨66,true,(bif (bif aH then (a1.2.1==a2.2.1) else false) then (a1.2.2==a2.2.2) else false)⟩] 8 #[] (.bool aI)) (show Ob.ok _ Ext _ _ from fun hk w2 hd=>Pu F  _ ((fun hk=>C9 b3 hk) hk) _ w2 (Ae w2))<|A9) fun a w hF hx=>?_
   replace hS:=hS.later hx
   refine wfn rfl ?_
   refine wpIn_ret (Ab [.tmp 2] [.bool (bif (bif (bif aH then (a1.2.1==a2.2.1) else false) then (a1.2.2==a2.2.2) else false) then aI else false)] hF rfl ⟨rfl,trivial⟩ ?_)
   obtain rfl:=Ao h
   exact ⟨rfl,hS.ext⟩
end Go.Proofs.YtifbomimeodibaaGreat
