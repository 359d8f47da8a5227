import Derived.Test.YtifbomimeodibaaV3XD
import Derived.Test.YtifbomimeodibaaProg
import Derived.Test.YtifbomimeodibaaV3XW0
import Derived.Test.YtifbomimeodibaaV3XW1
import Derived.Test.YtifbomimeodibaaV3XW3
import Derived.Test.YtifbomimeodibaaV3XW7
import Derived.Test.YtifbomimeodibaaV3XW11
import Derived.Test.YtifbomimeodibaaV3XW12
import Derived.Test.YtifbomimeodibaaV3XW13
namespace Go.Proofs.Ytifbomimeodibaa
open Go Go.RowKit Go.Eng
set_option maxRecDepth 10000
set_option maxHeartbeats 4000000
set_option linter.unusedVariables false
set_option linter.unusedSimpArgs false
theorem P9 (F:Nat) (p0:(List law12_Thing)) (p1:(List Int)) (res:Bool) (h:Gp F p0 p1=some res) (μ:Frz) (w0:World) (hm:FrzAt μ w0) {ad1:Option Addr} {cap2:Nat} {css3:List (List Value)} {ad5:Option Addr} {cap6:Nat} (hA4:ArrQ μ 6 Rp58 ad1 cap2 css3 p0) (hA7:ArrM μ 1 (fK .u8) ad5 cap6 p1):Calls Try.prog 3 #[sv ad1 p0 cap2,sv ad5 p1 cap6] w0 (fun e w=>e=.returned (.bool res)∧Ext w0 w):=by
 obtain ⟨hlow,hS⟩:=hm.init
 have hext:=Frz.ext_refl w0.heap.size μ
 rw [Gp] at h
 refine Aq Try.func3 rfl 160 [(0,sv ad1 p0 cap2),(1,sv ad5 p1 cap6)] rfl rfl kr fun a w hw hF=>?_
 replace hS:=hS.cast hw
 clear hw
 refine esr ?_
 refine rn 1 1 [(0,sv ad1 p0 cap2),(1,sv ad5 p1 cap6)] hF fun a hF=>?_
 refine wfn rfl ?_
 refine esr ?_
 refine rn 1 1 [(1,sv ad5 p1 cap6),(25,sv ad1 p0 cap2)] hF fun a hF=>?_
 replace h:=A5 h
 obtain ⟨y9,hy9,h⟩:=h
 refine SK.wi (Bx (fun v8=>[(1,sv ad5 p1 cap6),(26,v8)]) hF kr ⟨kr⟩ (To F _ _ hy9 μ w (hS.frz (i:=0) rfl hlow) hA4) (fun _=>⟨kr⟩) ?_)
 rintro v8 w a ⟨ν10,a3,a2,d7,bD,rfl,bL,hQ⟩ hF
 replace hext:=Frz.ext_trans hext (Frz.ext_mono bD hS.ext.size)
 obtain ⟨hlow,hS⟩:=hS.frzMerge (i:=0) rfl hlow bD hQ
 replace hA4:=hA4.mono Rp58.mono bD.1
 replace hA7:=hA7.mono bD.1
 obtain ⟨ν16,bE,hlow,hS,d0⟩:=hS.freeze (i:=1) (j:=0) rfl rfl (by decide) hlow
 replace hA4:=hA4.mono Rp58.mono bE.1
 replace hA7:=hA7.mono bE.1
 replace bL:=All2.mono Rp46.mono bE.1 bL
 replace hext:=Frz.ext_trans hext bE
 have aG:=ArrQ.of_arr (l:=y9.1) d0 bL Rp46.mono (Frz.le_refl _)
 refine rn 5 7 [(1,sv ad5 p1 cap6),(5,sv a3 y9.1 a2),(6,.bool y9.2)] hF fun a hF=>?_
 refine wfn rfl ?_
 refine Ay ?_
 refine esr ?_
 refine rn 7 7 [(1,sv ad5 p1 cap6),(5,sv a3 y9.1 a2),(35,.bool (bif (!y9.2) then true else (decide ((ln p1)>500))))] hF fun a hF=>?_
 refine wfn rfl ?_
 refine As hF rfl (fun hc=>?_) (fun hc=>?_)
 ·replace h:=Ao h hc
  refine esr ?_
  replace h:=A5 h
  obtain ⟨bS,cU,h⟩:=h
  refine rx 2 [.call [] 8 #[] (.bool bS)] 2 [(4,.bool bS)] hF (A0 (show Ob.ok _ Ext _ _ from fun hk w2 hd=>Nf F  _ ((fun _=>cU) hk) _ w2 (A7 w2)) Ab) fun a w hF hx=>?_
  replace hS:=hS.later hx
  refine wfn rfl ?_
  refine wpIn_ret (Aa<|Ak [.tmp 4] [.bool bS] hF rfl ⟨rfl,trivial⟩ ?_)
  have hr_:=Option.some.inj h
  subst hr_
  exact ⟨rfl,hS.ext⟩
 ·replace h:=An h hc
  refine wpIn_skip (A1 ?_)
  refine esr ?_
  refine rn 1 1 [(1,sv ad5 p1 cap6),(5,sv a3 y9.1 a2),(38,sv a3 y9.1 a2)] hF fun a hF=>?_
  replace h:=A5 h
  obtain ⟨aR,cV,h⟩:=h
  refine SK.wi (Bx (fun c6=>[(1,sv ad5 p1 cap6),(5,sv a3 y9.1 a2),(39,c6)]) hF kr ⟨kr⟩ (L8 F _ _ cV (Bm w) w (A7 w) (aG.mono Rp46.mono (FrzAt.le_mem (hS.frz (i:=0) rfl hlow)))) (fun _=>⟨kr⟩) ?_)
  rintro c6 w a ⟨b7,b9,rfl,hQ⟩ hF
  replace hS:=hS.madeL hQ
  refine rn 5 7 [(1,sv ad5 p1 cap6),(5,sv a3 y9.1 a2),(7,sv b7 aR.1 b9),(8,iv aR.2)] hF fun a hF=>?_
  refine wfn rfl ?_
  refine esr ?_
  refine rn 1 1 [(1,sv ad5 p1 cap6),(5,sv a3 y9.1 a2),(7,sv b7 aR.1 b9),(8,iv aR.2),(43,sv b7 aR.1 b9)] hF fun a hF=>?_
  obtain ⟨ν25,bF,hlow,hS,d1⟩:=hS.freeze (i:=1) (j:=0) rfl rfl (by decide) hlow
  replace hA4:=hA4.mono Rp58.mono bF.1
  replace hA7:=hA7.mono bF.1
  replace aG:=aG.mono Rp46.mono bF.1
  replace hext:=Frz.ext_trans hext bF
  have b1:=ArrM.of_arrT d1
  replace h:=A5 h
  obtain ⟨aN,cW,h⟩:=h
  refine SK.wi (Bx (fun c7=>[(1,sv ad5 p1 cap6),(5,sv a3 y9.1 a2),(7,sv b7 aR.1 b9),(8,iv aR.2),(44,c7)]) hF kr ⟨kr⟩ (Fk F _ _ cW ν25 w (hS.frz (i:=0) rfl hlow) b1) (fun _=>⟨kr⟩) ?_)
  rintro c7 w a ⟨ν31,aW,aY,b3,b4,rfl,bB,hQ⟩ hF
  replace hext:=Frz.ext_trans hext (Frz.ext_mono b4 hS.ext.size)
  obtain ⟨hlow,hS⟩:=hS.frzMerge (i:=0) rfl hlow b4 hQ
  replace hA4:=hA4.mono Rp58.mono b4.1
  replace hA7:=hA7.mono b4.1
  replace aG:=aG.mono Rp46.mono b4.1
  replace b1:=b1.mono b4.1
  refine rn 7 9 [(1,sv ad5 p1 cap6),(5,sv a3 y9.1 a2),(7,sv b7 aR.1 b9),(8,iv aR.2),(9,sv aW aN.1 aY),(10,iv aN.2.1),(11,iv aN.2.2)] hF fun a hF=>?_
  refine wfn rfl ?_
  refine Ay ?_
  refine esr ?_
  replace h:=A5 h
  obtain ⟨cB,cX,h⟩:=h
  refine rx 18 [.call [⟨60,false,(bif (bif (aR.2 != 0) then true else (aN.2.2 != 0)) then true else (aN.2.1 != (ln aR.1)))⟩] 11 #[sv aW aN.1 aY,sv a3 y9.1 a2] (.bool cB)] 18 [(1,sv ad5 p1 cap6),(5,sv a3 y9.1 a2),(65,.bool (bif (bif (bif (aR.2 != 0) then true else (aN.2.2 != 0)) then true else (aN.2.1 != (ln aR.1))) then true else (!cB)))] hF (A0 (show Ob.ok _ Ext _ _ from fun hk w2 hd=>S0 F aN.1 y9.1 _ ((fun hk=>Eu cX hk) hk) _ w2 (A7 w2) (ArrQ.of_own ((hS.later hd).arr (i:=0) rfl) bB Rp46.mono (FrzAt.le_mem ((hS.later hd).frz (i:=1) rfl hlow))) (aG.mono Rp46.mono (FrzAt.le_mem ((hS.later hd).frz (i:=1) rfl hlow)))) Ab) fun a w hF hx=>?_
  replace hS:=hS.later hx
  refine wfn rfl ?_
  refine As hF rfl (fun hc=>?_) (fun hc=>?_)
  ·replace h:=Ao h hc
   refine esr ?_
   refine rn 1 1 [(4,.bool false)] hF fun a hF=>?_
   refine wfn rfl ?_
   refine wpIn_ret (Aa<|Ak [.tmp 4] [.bool false] hF rfl ⟨rfl,trivial⟩ ?_)
   have hr_:=Option.some.inj h
   subst hr_
   exact ⟨rfl,hS.ext⟩
  ·replace h:=An h hc
   refine wpIn_skip (A1 ?_)
   refine esr ?_
   refine SK.wi (G0 (e:=5) (sz:=1) (f:=(fK .u8)) (t:=23) (len:=4) (fun b8=>[(1,sv ad5 p1 cap6),(5,sv a3 y9.1 a2),(66,sb b8 4)]) #[(0,.int .u8 82),(1,.int .u8 86),(2,.int .u8 70),(3,.int .u8 49)] #[.int .u8 82,.int .u8 86,.int .u8 70,.int .u8 49] ([82,86,70,49]) hF hS kr ⟨kr⟩ kr (C7 .u8) rfl rfl kr (fun _=>⟨kr⟩) fun b8 w a hF hS=>?_)
   replace hS:St w0 [arrT 5 1 (fK .u8) (some ⟨b8,0,none⟩) ([82,86,70,49]).length 4 ([82,86,70,49]),arr 46 21 (fN 21) aW aN.1.length aY b3,fz w0 ν31] w:=St.toT hS
   refine SK.wi (N9 (src:=23) [(1,sv ad5 p1 cap6),(5,sv a3 y9.1 a2),(67,sb b8 4)] 0 hF hS rfl (by decide) kr ⟨kr⟩ kr ⟨kr⟩ fun w a hF hS=>?_)
   refine rn 1 3 [(5,sv a3 y9.1 a2),(67,sb b8 4),(68,sv ad5 p1 cap6)] hF fun a hF=>?_
   replace h:=A5 h
   obtain ⟨aQ,cG,h⟩:=h
   refine SK.wi (R0 (t:=23) (ty:=23) (bytes:=1) (l:=([82,86,70,49])) (l':=p1) (fun aS aU=>[(5,sv a3 y9.1 a2),(69,sv aS aQ aU)]) 0 hF hS rfl kr ⟨kr⟩ kr (hA7 _ (hS.frz (i:=2) rfl hlow)) (fun _ _=>rfl) cG (fun _ _=>⟨kr⟩) fun aS aU w a hF hS=>?_)
   refine rn 1 5 [(5,sv a3 y9.1 a2),(12,sv aS aQ aU)] hF fun a hF=>?_
   refine wfn rfl ?_
   refine esr ?_
   refine rn 1 1 [(5,sv a3 y9.1 a2),(12,sv aS aQ aU),(71,sv aS aQ aU)] hF fun a hF=>?_
   obtain ⟨ν42,b5,hlow,hS,d2⟩:=hS.freeze (i:=2) (j:=0) rfl rfl (by decide) hlow
   replace hA4:=hA4.mono Rp58.mono b5.1
   replace hA7:=hA7.mono b5.1
   replace aG:=aG.mono Rp46.mono b5.1
   replace b1:=b1.mono b5.1
   replace bB:=All2.mono Rp46.mono b5.1 bB
   replace hext:=Frz.ext_trans hext b5
   have bC:=ArrM.of_arrT d2
   replace h:=A5 h
   obtain ⟨aH,cY,h⟩:=h
   refine SK.wi (Bx (fun c8=>[(5,sv a3 y9.1 a2),(12,sv aS aQ aU),(72,c8)]) hF kr ⟨kr⟩ (Fk F _ _ cY ν42 w (hS.frz (i:=1) rfl hlow) bC) (fun _=>⟨kr⟩) ?_)
   rintro c8 w a ⟨ν48,aX,aZ,bA,b0,rfl,cI,hQ⟩ hF
   replace hext:=Frz.ext_trans hext (Frz.ext_mono b0 hS.ext.size)
   obtain ⟨hlow,hS⟩:=hS.frzMerge (i:=1) rfl hlow b0 hQ
   replace hA4:=hA4.mono Rp58.mono b0.1
   replace hA7:=hA7.mono b0.1
   replace aG:=aG.mono Rp46.mono b0.1
   replace b1:=b1.mono b0.1
   replace bB:=All2.mono Rp46.mono b0.1 bB
   replace bC:=bC.mono b0.1
   refine rn 7 9 [(5,sv a3 y9.1 a2),(8,iv aH.2.2),(9,sv aX aH.1 aZ),(10,iv aH.2.1),(12,sv aS aQ aU)] hF fun a hF=>?_
   refine wfn rfl ?_
   refine Er (fun a w=>Fr 160 [] [(5,sv a3 y9.1 a2)] a∧St w0 [arr 46 21 (fN 21) aX aH.1.length aZ bA,arr 46 21 (fN 21) aW aN.1.length aY b3,fz w0 ν48] w∧E6 F y9=some res) ?_ ?_
   ·skip
    refine esr ?_
    refine rn 2 2 [(5,sv a3 y9.1 a2),(9,sv aX aH.1 aZ),(10,iv aH.2.1),(12,sv aS aQ aU),(77,.bool (aH.2.2==0))] hF fun a hF=>?_
    refine wfn rfl ?_
    refine As hF rfl (fun hc=>?_) (fun hc=>?_)
    ·replace h:=Ao h hc
     refine esr ?_
     refine rn 1 1 [(5,sv a3 y9.1 a2),(10,iv aH.2.1),(12,sv aS aQ aU),(79,sv aX aH.1 aZ)] hF fun a hF=>?_
     replace h:=A5 h
     obtain ⟨b6,cS,h⟩:=h
     refine SK.wi (Bx (fun c5=>[(5,sv a3 y9.1 a2),(10,iv aH.2.1),(12,sv aS aQ aU),(80,c5)]) hF kr ⟨kr⟩ (L8 F _ _ cS (Bm w) w (A7 w) (ArrQ.of_own (hS.arr (i:=0) rfl) cI Rp46.mono (FrzAt.le_mem (hS.frz (i:=2) rfl hlow)))) (fun _=>⟨kr⟩) ?_)
     rintro c5 w a ⟨bU,bV,rfl,hQ⟩ hF
     replace hS:=hS.madeL hQ
     refine rn 5 7 [(5,sv a3 y9.1 a2),(10,iv aH.2.1),(12,sv aS aQ aU),(13,sv bU b6.1 bV),(14,iv b6.2)] hF fun a hF=>?_
     refine wfn rfl ?_
     refine esr ?_
     replace h:=A5 h
     obtain ⟨cA,cT,h⟩:=h
     refine rx 14 [.call [⟨85,false,(b6.2 != 0)⟩] 12 #[sv bU b6.1 bV,sv aS aQ aU] (.bool cA)] 14 [(5,sv a3 y9.1 a2),(96,.bool (bif (bif (b6.2 != 0) then true else (!cA)) then true else (aH.2.1 != (ln aQ))))] hF (A0 (show Ob.ok _ Ext _ _ from fun hk w2 hd=>Fg F b6.1 aQ _ ((fun hk=>Eu cT hk) hk) _ w2 (A7 w2) (Arr.toM ((hS.later hd).arrT_ (i:=0) rfl)) (bC.mono (FrzAt.le_mem ((hS.later hd).frz (i:=3) rfl hlow)))) Ab) fun a w hF hx=>?_
     replace hS:=hS.later hx
     refine wfn rfl ?_
     refine As hF rfl (fun hc=>?_) (fun hc=>?_)
     ·replace h:=Ao h hc
      refine esr ?_
      refine rn 1 1 [(4,.bool false)] hF fun a hF=>?_
      refine wfn rfl ?_
      refine wpIn_ret (Aa<|Ak [.tmp 4] [.bool false] hF rfl ⟨rfl,trivial⟩ ?_)
      have hr_:=Option.some.inj h
      subst hr_
      exact ⟨rfl,hS.ext⟩
     ·replace h:=An h hc
      refine wpIn_skip (A1 ?_)
      exact ⟨hF.sub kr,St.pick [1,2,3] (by decide) hS,h⟩
    ·replace h:=An h hc
     refine wpIn_skip (A1 ?_)
     exact ⟨hF.sub kr,St.pick [0,1,2] (by decide) hS,h⟩
   rintro a w ⟨hF,hS,h⟩
   rw [E6] at h
   refine Er (fun a w=>Fr 160 [] [] a∧St w0 [arr 46 21 (fN 21) aX aH.1.length aZ bA,arr 46 21 (fN 21) aW aN.1.length aY b3,fz w0 ν48] w∧Gh F=some res) ?_ ?_
   ·skip
    refine esr ?_
    refine rn 3 3 [(5,sv a3 y9.1 a2),(97,sv a3 y9.1 a2),(98,iv (ln y9.1)),(99,iv 0)] hF fun a hF=>?_
    refine wfn rfl ?_
    refine wpIn_block ?_
    refine Dz (fun n_ a w=>∃(a6:Int),Fr 160 [] [(5,sv a3 y9.1 a2),(97,sv a3 y9.1 a2),(98,iv (ln y9.1)),(99,iv a6)] a∧St w0 [arr 46 21 (fN 21) aX aH.1.length aZ bA,arr 46 21 (fN 21) aW aN.1.length aY b3,fz w0 ν48] w∧E8 F y9 n_ a6=some res) F ⟨0,hF.sub kr,St.pick [0,1,2] (by decide) hS,h⟩ ?_
    rintro nk3 a w ⟨a6,hF,hS,h⟩
    rcases nk3 with _|nk3
    ·cases (show (none:Option Bool)=some res from h)
    obtain ⟨k3,hk3⟩:∃k,k=E8 F y9 nk3:=⟨_,rfl⟩
    replace h:Gf F y9 k3 a6=some res:=by rw [hk3];exact h
    rw [Gf] at h
    refine esr ?_
    refine rn 1 1 [(5,sv a3 y9.1 a2),(97,sv a3 y9.1 a2),(98,iv (ln y9.1)),(99,iv a6),(100,.bool (decide (a6<(ln y9.1))))] hF fun a hF=>?_
    refine wfn rfl ?_
    refine Ay ?_
    refine As hF rfl (fun hc=>?_) (fun hc=>?_)
    ·replace h:=Ao h hc
     refine wpIn_skip (A1 ?_)
     refine Er (fun a w=>Fr 160 [] [(5,sv a3 y9.1 a2),(97,sv a3 y9.1 a2),(98,iv (ln y9.1)),(99,iv a6)] a∧St w0 [arr 46 21 (fN 21) aX aH.1.length aZ bA,arr 46 21 (fN 21) aW aN.1.length aY b3,fz w0 ν48] w∧E7 a6 k3=some res) ?_ ?_
     ·skip
      refine wpIn_block ?_
      refine esr ?_
      replace h:=A5 h
      obtain ⟨a0,cJ,h⟩:=h
      obtain ⟨d3,bW,cD⟩:=E3 aG.2 cJ
      obtain ⟨aC,aE,d5,aD,aF,rfl,bG,bH⟩:=cD
      refine rno 3 [.run [] (Instr.indexAt 24 (sv a3 y9.1 a2) (iv a6)) (.pointer (some (Al a3 a6 21))),.run [] (Instr.loadAt 46 (.pointer (some (Al a3 a6 21)))) (.agg #[iv a0.Kind,.string a0.Name,iv a0.Time,.string a0.Sweep.Site.Name,iv a0.Sweep.Site.X,iv a0.Sweep.Site.Y,iv a0.Sweep.Site.Z,iv a0.Sweep.Site.Rose,iv a0.Sweep.Site.Gates,iv a0.Sweep.Site.Step,iv a0.Sweep.Site.Width,iv a0.Sweep.Tilt,iv a0.Sweep.Time,sv aC a0.Sweep.Rays aE,iv a0.Field.Grid.X,iv a0.Field.Grid.Y,iv a0.Field.Grid.Size,iv a0.Field.Grid.Wide,iv a0.Field.Grid.High,sv aD a0.Field.Vals aF,.string a0.Text])] 3 [(5,sv a3 y9.1 a2),(97,sv a3 y9.1 a2),(98,iv (ln y9.1)),(99,iv a6),(101,iv a6),(103,.agg #[iv a0.Kind,.string a0.Name,iv a0.Time,.string a0.Sweep.Site.Name,iv a0.Sweep.Site.X,iv a0.Sweep.Site.Y,iv a0.Sweep.Site.Z,iv a0.Sweep.Site.Rose,iv a0.Sweep.Site.Gates,iv a0.Sweep.Site.Step,iv a0.Sweep.Site.Width,iv a0.Sweep.Tilt,iv a0.Sweep.Time,sv aC a0.Sweep.Rays aE,iv a0.Field.Grid.X,iv a0.Field.Grid.Y,iv a0.Field.Grid.Size,iv a0.Field.Grid.Wide,iv a0.Field.Grid.High,sv aD a0.Field.Vals aF,.string a0.Text])] hF (A0 (Bj (aG.at (hS.frz (i:=2) rfl hlow)) kr (fun _=>bW)) (A0 (G5 (m:=21) (i:=a6) (us:=[iv a0.Kind,.string a0.Name,iv a0.Time,.string a0.Sweep.Site.Name,iv a0.Sweep.Site.X,iv a0.Sweep.Site.Y,iv a0.Sweep.Site.Z,iv a0.Sweep.Site.Rose,iv a0.Sweep.Site.Gates,iv a0.Sweep.Site.Step,iv a0.Sweep.Site.Width,iv a0.Sweep.Tilt,iv a0.Sweep.Time,sv aC a0.Sweep.Rays aE,iv a0.Field.Grid.X,iv a0.Field.Grid.Y,iv a0.Field.Grid.Size,iv a0.Field.Grid.Wide,iv a0.Field.Grid.High,sv aD a0.Field.Vals aF,.string a0.Text]) 0 (Eo 21) (fun _ hd=>(aG.at ((hS.at_ hd).frz (i:=2) rfl hlow))) kr (fun _=>bW) ⟨rfl,rfl⟩) Ab)) fun a hF=>?_
      refine SK.wi (Bp (t:=46) (fun a8=>[(5,sv a3 y9.1 a2),(16,pb a8),(97,sv a3 y9.1 a2),(98,iv (ln y9.1)),(99,iv a6),(101,iv a6),(103,.agg #[iv a0.Kind,.string a0.Name,iv a0.Time,.string a0.Sweep.Site.Name,iv a0.Sweep.Site.X,iv a0.Sweep.Site.Y,iv a0.Sweep.Site.Z,iv a0.Sweep.Site.Rose,iv a0.Sweep.Site.Gates,iv a0.Sweep.Site.Step,iv a0.Sweep.Site.Width,iv a0.Sweep.Tilt,iv a0.Sweep.Time,sv aC a0.Sweep.Rays aE,iv a0.Field.Grid.X,iv a0.Field.Grid.Y,iv a0.Field.Grid.Size,iv a0.Field.Grid.Wide,iv a0.Field.Grid.High,sv aD a0.Field.Vals aF,.string a0.Text])]) #[iv 0,.string ByteArray.empty,iv 0,.string ByteArray.empty,iv 0,iv 0,iv 0,iv 0,iv 0,iv 0,iv 0,iv 0,iv 0,.slice none 0 0,iv 0,iv 0,iv 0,iv 0,iv 0,.slice none 0 0,.string ByteArray.empty] hF hS kr ⟨kr⟩ kr (fun _=>⟨kr⟩) fun a8 w a hF hS=>?_)
      refine rn 1 5 [(5,sv a3 y9.1 a2),(15,iv a6),(16,pb a8),(97,sv a3 y9.1 a2),(98,iv (ln y9.1)),(99,iv a6),(103,.agg #[iv a0.Kind,.string a0.Name,iv a0.Time,.string a0.Sweep.Site.Name,iv a0.Sweep.Site.X,iv a0.Sweep.Site.Y,iv a0.Sweep.Site.Z,iv a0.Sweep.Site.Rose,iv a0.Sweep.Site.Gates,iv a0.Sweep.Site.Step,iv a0.Sweep.Site.Width,iv a0.Sweep.Tilt,iv a0.Sweep.Time,sv aC a0.Sweep.Rays aE,iv a0.Field.Grid.X,iv a0.Field.Grid.Y,iv a0.Field.Grid.Size,iv a0.Field.Grid.Wide,iv a0.Field.Grid.High,sv aD a0.Field.Vals aF,.string a0.Text])] hF fun a hF=>?_
      refine SK.wi (Am (t:=46) [(5,sv a3 y9.1 a2),(15,iv a6),(16,pb a8),(97,sv a3 y9.1 a2),(98,iv (ln y9.1)),(99,iv a6)] 0 0 (.agg #[iv a0.Kind,.string a0.Name,iv a0.Time,.string a0.Sweep.Site.Name,iv a0.Sweep.Site.X,iv a0.Sweep.Site.Y,iv a0.Sweep.Site.Z,iv a0.Sweep.Site.Rose,iv a0.Sweep.Site.Gates,iv a0.Sweep.Site.Step,iv a0.Sweep.Site.Width,iv a0.Sweep.Tilt,iv a0.Sweep.Time,sv aC a0.Sweep.Rays aE,iv a0.Field.Grid.X,iv a0.Field.Grid.Y,iv a0.Field.Grid.Size,iv a0.Field.Grid.Wide,iv a0.Field.Grid.High,sv aD a0.Field.Vals aF,.string a0.Text]) #[iv a0.Kind,.string a0.Name,iv a0.Time,.string a0.Sweep.Site.Name,iv a0.Sweep.Site.X,iv a0.Sweep.Site.Y,iv a0.Sweep.Site.Z,iv a0.Sweep.Site.Rose,iv a0.Sweep.Site.Gates,iv a0.Sweep.Site.Step,iv a0.Sweep.Site.Width,iv a0.Sweep.Tilt,iv a0.Sweep.Time,sv aC a0.Sweep.Rays aE,iv a0.Field.Grid.X,iv a0.Field.Grid.Y,iv a0.Field.Grid.Size,iv a0.Field.Grid.Wide,iv a0.Field.Grid.High,sv aD a0.Field.Vals aF,.string a0.Text] hF hS rfl kr ⟨kr⟩ kr kr kr kr ⟨kr⟩ fun w a hF hS=>?_)
      refine wfn rfl ?_
      refine esr ?_
      replace h:=A5 h
      obtain ⟨a7,bY,h⟩:=h
      obtain ⟨cC,cF,cH⟩:=Xh aG.2 bY
      have bI:ArrQ ν48 21 Rp46 (Ai a3 a2 (0:Int).toNat 21) (a2-(0:Int).toNat) cC a7:=⟨fun w_ hw_=>(aG.1 w_ hw_).cutD (Eo 21) cF,cH⟩
      refine rno 5 [.run [] (Instr.sliceAt 24 (sv a3 y9.1 a2) none (some (iv a6)) none) (.slice (Ai a3 a2 (0:Int).toNat 21) a7.length (a2-(0:Int).toNat))] 5 [(5,sv a3 y9.1 a2),(16,pb a8),(97,sv a3 y9.1 a2),(98,iv (ln y9.1)),(99,iv a6),(106,.slice (Ai a3 a2 (0:Int).toNat 21) a7.length (a2-(0:Int).toNat)),(107,iv (ln a7)),(108,iv 0)] hF (A0 (Ni kr (aG.at (hS.frz (i:=3) rfl hlow)) (fun _=>bY)) Ab) fun a hF=>?_
      refine wfn rfl ?_
      refine wpIn_block ?_
      refine Dz (fun n_ a w=>∃(a9:Int),Fr 160 [] [(5,sv a3 y9.1 a2),(16,pb a8),(97,sv a3 y9.1 a2),(98,iv (ln y9.1)),(99,iv a6),(106,.slice (Ai a3 a2 (0:Int).toNat 21) a7.length (a2-(0:Int).toNat)),(107,iv (ln a7)),(108,iv a9)] a∧St w0 [blk a8 46 #[iv a0.Kind,.string a0.Name,iv a0.Time,.string a0.Sweep.Site.Name,iv a0.Sweep.Site.X,iv a0.Sweep.Site.Y,iv a0.Sweep.Site.Z,iv a0.Sweep.Site.Rose,iv a0.Sweep.Site.Gates,iv a0.Sweep.Site.Step,iv a0.Sweep.Site.Width,iv a0.Sweep.Tilt,iv a0.Sweep.Time,sv aC a0.Sweep.Rays aE,iv a0.Field.Grid.X,iv a0.Field.Grid.Y,iv a0.Field.Grid.Size,iv a0.Field.Grid.Wide,iv a0.Field.Grid.High,sv aD a0.Field.Vals aF,.string a0.Text],arr 46 21 (fN 21) aX aH.1.length aZ bA,arr 46 21 (fN 21) aW aN.1.length aY b3,fz w0 ν48] w∧Db F a6 k3 a0 a7 n_ a9=some res) F ⟨0,hF.sub kr,St.pick [0,1,2,3] (by decide) hS,h⟩ ?_
      rintro nk5 a w ⟨a9,hF,hS,h⟩
      rcases nk5 with _|nk5
      ·cases (show (none:Option Bool)=some res from h)
      obtain ⟨k5,hk5⟩:∃k,k=Db F a6 k3 a0 a7 nk5:=⟨_,rfl⟩
      replace h:Gg F a6 k3 a0 a7 k5 a9=some res:=by rw [hk5];exact h
      rw [Gg] at h
      refine esr ?_
      refine rn 1 1 [(5,sv a3 y9.1 a2),(16,pb a8),(97,sv a3 y9.1 a2),(98,iv (ln y9.1)),(99,iv a6),(106,.slice (Ai a3 a2 (0:Int).toNat 21) a7.length (a2-(0:Int).toNat)),(107,iv (ln a7)),(108,iv a9),(109,.bool (decide (a9<(ln a7))))] hF fun a hF=>?_
      refine wfn rfl ?_
      refine Ay ?_
      refine As hF rfl (fun hc=>?_) (fun hc=>?_)
      ·replace h:=Ao h hc
       refine wpIn_skip (A1 ?_)
       refine Ay ?_
       refine wpIn_block ?_
       refine esr ?_
       replace h:=A5 h
       obtain ⟨a1,cK,h⟩:=h
       obtain ⟨d4,bX,cE⟩:=E3 bI.2 cK
       obtain ⟨aI,aK,d6,aJ,aL,rfl,bJ,bK⟩:=cE
       refine rno 2 [.run [] (Instr.indexAt 24 (.slice (Ai a3 a2 (0:Int).toNat 21) a7.length (a2-(0:Int).toNat)) (iv a9)) (.pointer (some (Al (Ai a3 a2 (0:Int).toNat 21) a9 21))),.run [] (Instr.loadAt 46 (.pointer (some (Al (Ai a3 a2 (0:Int).toNat 21) a9 21)))) (.agg #[iv a1.Kind,.string a1.Name,iv a1.Time,.string a1.Sweep.Site.Name,iv a1.Sweep.Site.X,iv a1.Sweep.Site.Y,iv a1.Sweep.Site.Z,iv a1.Sweep.Site.Rose,iv a1.Sweep.Site.Gates,iv a1.Sweep.Site.Step,iv a1.Sweep.Site.Width,iv a1.Sweep.Tilt,iv a1.Sweep.Time,sv aI a1.Sweep.Rays aK,iv a1.Field.Grid.X,iv a1.Field.Grid.Y,iv a1.Field.Grid.Size,iv a1.Field.Grid.Wide,iv a1.Field.Grid.High,sv aJ a1.Field.Vals aL,.string a1.Text])] 2 [(5,sv a3 y9.1 a2),(16,pb a8),(97,sv a3 y9.1 a2),(98,iv (ln y9.1)),(99,iv a6),(106,.slice (Ai a3 a2 (0:Int).toNat 21) a7.length (a2-(0:Int).toNat)),(107,iv (ln a7)),(108,iv a9),(111,.agg #[iv a1.Kind,.string a1.Name,iv a1.Time,.string a1.Sweep.Site.Name,iv a1.Sweep.Site.X,iv a1.Sweep.Site.Y,iv a1.Sweep.Site.Z,iv a1.Sweep.Site.Rose,iv a1.Sweep.Site.Gates,iv a1.Sweep.Site.Step,iv a1.Sweep.Site.Width,iv a1.Sweep.Tilt,iv a1.Sweep.Time,sv aI a1.Sweep.Rays aK,iv a1.Field.Grid.X,iv a1.Field.Grid.Y,iv a1.Field.Grid.Size,iv a1.Field.Grid.Wide,iv a1.Field.Grid.High,sv aJ a1.Field.Vals aL,.string a1.Text])] hF (A0 (Bj (bI.at (hS.frz (i:=3) rfl hlow)) kr (fun _=>bX)) (A0 (G5 (m:=21) (i:=a9) (us:=[iv a1.Kind,.string a1.Name,iv a1.Time,.string a1.Sweep.Site.Name,iv a1.Sweep.Site.X,iv a1.Sweep.Site.Y,iv a1.Sweep.Site.Z,iv a1.Sweep.Site.Rose,iv a1.Sweep.Site.Gates,iv a1.Sweep.Site.Step,iv a1.Sweep.Site.Width,iv a1.Sweep.Tilt,iv a1.Sweep.Time,sv aI a1.Sweep.Rays aK,iv a1.Field.Grid.X,iv a1.Field.Grid.Y,iv a1.Field.Grid.Size,iv a1.Field.Grid.Wide,iv a1.Field.Grid.High,sv aJ a1.Field.Vals aL,.string a1.Text]) 0 (Eo 21) (fun _ hd=>(bI.at ((hS.at_ hd).frz (i:=3) rfl hlow))) kr (fun _=>bX) ⟨rfl,rfl⟩) Ab)) fun a hF=>?_
       refine SK.wi (Bp (t:=46) (fun aP=>[(5,sv a3 y9.1 a2),(16,pb a8),(18,pb aP),(97,sv a3 y9.1 a2),(98,iv (ln y9.1)),(99,iv a6),(106,.slice (Ai a3 a2 (0:Int).toNat 21) a7.length (a2-(0:Int).toNat)),(107,iv (ln a7)),(108,iv a9),(111,.agg #[iv a1.Kind,.string a1.Name,iv a1.Time,.string a1.Sweep.Site.Name,iv a1.Sweep.Site.X,iv a1.Sweep.Site.Y,iv a1.Sweep.Site.Z,iv a1.Sweep.Site.Rose,iv a1.Sweep.Site.Gates,iv a1.Sweep.Site.Step,iv a1.Sweep.Site.Width,iv a1.Sweep.Tilt,iv a1.Sweep.Time,sv aI a1.Sweep.Rays aK,iv a1.Field.Grid.X,iv a1.Field.Grid.Y,iv a1.Field.Grid.Size,iv a1.Field.Grid.Wide,iv a1.Field.Grid.High,sv aJ a1.Field.Vals aL,.string a1.Text])]) #[iv 0,.string ByteArray.empty,iv 0,.string ByteArray.empty,iv 0,iv 0,iv 0,iv 0,iv 0,iv 0,iv 0,iv 0,iv 0,.slice none 0 0,iv 0,iv 0,iv 0,iv 0,iv 0,.slice none 0 0,.string ByteArray.empty] hF hS kr ⟨kr⟩ kr (fun _=>⟨kr⟩) fun aP w a hF hS=>?_)
       refine SK.wi (Am (t:=46) [(5,sv a3 y9.1 a2),(16,pb a8),(18,pb aP),(97,sv a3 y9.1 a2),(98,iv (ln y9.1)),(99,iv a6),(106,.slice (Ai a3 a2 (0:Int).toNat 21) a7.length (a2-(0:Int).toNat)),(107,iv (ln a7)),(108,iv a9)] 0 0 (.agg #[iv a1.Kind,.string a1.Name,iv a1.Time,.string a1.Sweep.Site.Name,iv a1.Sweep.Site.X,iv a1.Sweep.Site.Y,iv a1.Sweep.Site.Z,iv a1.Sweep.Site.Rose,iv a1.Sweep.Site.Gates,iv a1.Sweep.Site.Step,iv a1.Sweep.Site.Width,iv a1.Sweep.Tilt,iv a1.Sweep.Time,sv aI a1.Sweep.Rays aK,iv a1.Field.Grid.X,iv a1.Field.Grid.Y,iv a1.Field.Grid.Size,iv a1.Field.Grid.Wide,iv a1.Field.Grid.High,sv aJ a1.Field.Vals aL,.string a1.Text]) #[iv a1.Kind,.string a1.Name,iv a1.Time,.string a1.Sweep.Site.Name,iv a1.Sweep.Site.X,iv a1.Sweep.Site.Y,iv a1.Sweep.Site.Z,iv a1.Sweep.Site.Rose,iv a1.Sweep.Site.Gates,iv a1.Sweep.Site.Step,iv a1.Sweep.Site.Width,iv a1.Sweep.Tilt,iv a1.Sweep.Time,sv aI a1.Sweep.Rays aK,iv a1.Field.Grid.X,iv a1.Field.Grid.Y,iv a1.Field.Grid.Size,iv a1.Field.Grid.Wide,iv a1.Field.Grid.High,sv aJ a1.Field.Vals aL,.string a1.Text] hF hS rfl kr ⟨kr⟩ kr kr kr kr ⟨kr⟩ fun w a hF hS=>?_)
       refine wfn rfl ?_
       refine esr ?_
       refine rno 1 [.run [] (Instr.loadAt 46 (pb a8)) (.agg #[iv a0.Kind,.string a0.Name,iv a0.Time,.string a0.Sweep.Site.Name,iv a0.Sweep.Site.X,iv a0.Sweep.Site.Y,iv a0.Sweep.Site.Z,iv a0.Sweep.Site.Rose,iv a0.Sweep.Site.Gates,iv a0.Sweep.Site.Step,iv a0.Sweep.Site.Width,iv a0.Sweep.Tilt,iv a0.Sweep.Time,sv aC a0.Sweep.Rays aE,iv a0.Field.Grid.X,iv a0.Field.Grid.Y,iv a0.Field.Grid.Size,iv a0.Field.Grid.Wide,iv a0.Field.Grid.High,sv aD a0.Field.Vals aF,.string a0.Text])] 1 [(5,sv a3 y9.1 a2),(16,pb a8),(18,pb aP),(97,sv a3 y9.1 a2),(98,iv (ln y9.1)),(99,iv a6),(106,.slice (Ai a3 a2 (0:Int).toNat 21) a7.length (a2-(0:Int).toNat)),(107,iv (ln a7)),(108,iv a9),(113,.agg #[iv a0.Kind,.string a0.Name,iv a0.Time,.string a0.Sweep.Site.Name,iv a0.Sweep.Site.X,iv a0.Sweep.Site.Y,iv a0.Sweep.Site.Z,iv a0.Sweep.Site.Rose,iv a0.Sweep.Site.Gates,iv a0.Sweep.Site.Step,iv a0.Sweep.Site.Width,iv a0.Sweep.Tilt,iv a0.Sweep.Time,sv aC a0.Sweep.Rays aE,iv a0.Field.Grid.X,iv a0.Field.Grid.Y,iv a0.Field.Grid.Size,iv a0.Field.Grid.Wide,iv a0.Field.Grid.High,sv aD a0.Field.Vals aF,.string a0.Text])] hF (A0 (obN (us:=[iv a0.Kind,.string a0.Name,iv a0.Time,.string a0.Sweep.Site.Name,iv a0.Sweep.Site.X,iv a0.Sweep.Site.Y,iv a0.Sweep.Site.Z,iv a0.Sweep.Site.Rose,iv a0.Sweep.Site.Gates,iv a0.Sweep.Site.Step,iv a0.Sweep.Site.Width,iv a0.Sweep.Tilt,iv a0.Sweep.Time,sv aC a0.Sweep.Rays aE,iv a0.Field.Grid.X,iv a0.Field.Grid.Y,iv a0.Field.Grid.Size,iv a0.Field.Grid.Wide,iv a0.Field.Grid.High,sv aD a0.Field.Vals aF,.string a0.Text]) kr (fun _ hd=>((hS.at_ hd).blk (i:=1) rfl).cells rfl)) Ab) fun a hF=>?_
       replace h:=A5 h
       obtain ⟨a4,cO,h⟩:=h
       refine SK.wi (Bx (fun c3=>[(5,sv a3 y9.1 a2),(16,pb a8),(18,pb aP),(97,sv a3 y9.1 a2),(98,iv (ln y9.1)),(99,iv a6),(106,.slice (Ai a3 a2 (0:Int).toNat 21) a7.length (a2-(0:Int).toNat)),(107,iv (ln a7)),(108,iv a9),(114,c3)]) hF kr ⟨kr⟩ (K1 F _ _ cO (Bm w) w (A7 w) (bG.mono Rp83.mono (FrzAt.le_mem (hS.frz (i:=4) rfl hlow))) (bH.mono (FrzAt.le_mem (hS.frz (i:=4) rfl hlow)))) (fun _=>⟨kr⟩) ?_)
       rintro c3 w a ⟨aO,aM,rfl,hQ⟩ hF
       replace hS:=hS.madeL hQ
       refine rn 5 7 [(5,sv a3 y9.1 a2),(16,pb a8),(18,pb aP),(19,sv aO a4.1 aM),(20,iv a4.2),(97,sv a3 y9.1 a2),(98,iv (ln y9.1)),(99,iv a6),(106,.slice (Ai a3 a2 (0:Int).toNat 21) a7.length (a2-(0:Int).toNat)),(107,iv (ln a7)),(108,iv a9)] hF fun a hF=>?_
       refine wfn rfl ?_
       refine esr ?_
       refine rno 1 [.run [] (Instr.loadAt 46 (pb aP)) (.agg #[iv a1.Kind,.string a1.Name,iv a1.Time,.string a1.Sweep.Site.Name,iv a1.Sweep.Site.X,iv a1.Sweep.Site.Y,iv a1.Sweep.Site.Z,iv a1.Sweep.Site.Rose,iv a1.Sweep.Site.Gates,iv a1.Sweep.Site.Step,iv a1.Sweep.Site.Width,iv a1.Sweep.Tilt,iv a1.Sweep.Time,sv aI a1.Sweep.Rays aK,iv a1.Field.Grid.X,iv a1.Field.Grid.Y,iv a1.Field.Grid.Size,iv a1.Field.Grid.Wide,iv a1.Field.Grid.High,sv aJ a1.Field.Vals aL,.string a1.Text])] 1 [(5,sv a3 y9.1 a2),(16,pb a8),(18,pb aP),(19,sv aO a4.1 aM),(20,iv a4.2),(97,sv a3 y9.1 a2),(98,iv (ln y9.1)),(99,iv a6),(106,.slice (Ai a3 a2 (0:Int).toNat 21) a7.length (a2-(0:Int).toNat)),(107,iv (ln a7)),(108,iv a9),(118,.agg #[iv a1.Kind,.string a1.Name,iv a1.Time,.string a1.Sweep.Site.Name,iv a1.Sweep.Site.X,iv a1.Sweep.Site.Y,iv a1.Sweep.Site.Z,iv a1.Sweep.Site.Rose,iv a1.Sweep.Site.Gates,iv a1.Sweep.Site.Step,iv a1.Sweep.Site.Width,iv a1.Sweep.Tilt,iv a1.Sweep.Time,sv aI a1.Sweep.Rays aK,iv a1.Field.Grid.X,iv a1.Field.Grid.Y,iv a1.Field.Grid.Size,iv a1.Field.Grid.Wide,iv a1.Field.Grid.High,sv aJ a1.Field.Vals aL,.string a1.Text])] hF (A0 (obN (us:=[iv a1.Kind,.string a1.Name,iv a1.Time,.string a1.Sweep.Site.Name,iv a1.Sweep.Site.X,iv a1.Sweep.Site.Y,iv a1.Sweep.Site.Z,iv a1.Sweep.Site.Rose,iv a1.Sweep.Site.Gates,iv a1.Sweep.Site.Step,iv a1.Sweep.Site.Width,iv a1.Sweep.Tilt,iv a1.Sweep.Time,sv aI a1.Sweep.Rays aK,iv a1.Field.Grid.X,iv a1.Field.Grid.Y,iv a1.Field.Grid.Size,iv a1.Field.Grid.Wide,iv a1.Field.Grid.High,sv aJ a1.Field.Vals aL,.string a1.Text]) kr (fun _ hd=>((hS.at_ hd).blk (i:=1) rfl).cells rfl)) Ab) fun a hF=>?_
       replace h:=A5 h
       obtain ⟨a5,cP,h⟩:=h
       refine SK.wi (Bx (fun c4=>[(5,sv a3 y9.1 a2),(16,pb a8),(18,pb aP),(19,sv aO a4.1 aM),(20,iv a4.2),(97,sv a3 y9.1 a2),(98,iv (ln y9.1)),(99,iv a6),(106,.slice (Ai a3 a2 (0:Int).toNat 21) a7.length (a2-(0:Int).toNat)),(107,iv (ln a7)),(108,iv a9),(119,c4)]) hF kr ⟨kr⟩ (K1 F _ _ cP (Bm w) w (A7 w) (bJ.mono Rp83.mono (FrzAt.le_mem (hS.frz (i:=5) rfl hlow))) (bK.mono (FrzAt.le_mem (hS.frz (i:=5) rfl hlow)))) (fun _=>⟨kr⟩) ?_)
       rintro c4 w a ⟨aV,aT,rfl,hQ⟩ hF
       replace hS:=hS.madeL hQ
       refine rn 5 7 [(5,sv a3 y9.1 a2),(16,pb a8),(18,pb aP),(19,sv aO a4.1 aM),(20,iv a4.2),(21,sv aV a5.1 aT),(22,iv a5.2),(97,sv a3 y9.1 a2),(98,iv (ln y9.1)),(99,iv a6),(106,.slice (Ai a3 a2 (0:Int).toNat 21) a7.length (a2-(0:Int).toNat)),(107,iv (ln a7)),(108,iv a9)] hF fun a hF=>?_
       refine wfn rfl ?_
       refine esr ?_
       refine rn 6 6 [(5,sv a3 y9.1 a2),(16,pb a8),(18,pb aP),(19,sv aO a4.1 aM),(20,iv a4.2),(21,sv aV a5.1 aT),(22,iv a5.2),(23,iv (if (ln a5.1)<(ln a4.1) then (ln a5.1) else (ln a4.1))),(97,sv a3 y9.1 a2),(98,iv (ln y9.1)),(99,iv a6),(106,.slice (Ai a3 a2 (0:Int).toNat 21) a7.length (a2-(0:Int).toNat)),(107,iv (ln a7)),(108,iv a9)] hF fun a hF=>?_
       refine wfn rfl ?_
       refine Ay ?_
       replace h:=A5 h
       obtain ⟨aA,c1,h⟩:=h
       replace h:=A5 h
       obtain ⟨aB,c2,h⟩:=h
       rcases Bool.eq_false_or_eq_true ((bif (bif (a4.2 != 0) then true else (a5.2 != 0)) then true else (!(aA==aB)))) with b2|b2
       ·replace h:=Ao h b2
        refine Pb (obs:=[.call [⟨133,false,(bif (a4.2 != 0) then true else (a5.2 != 0))⟩] 12 #[sv aO a4.1 aM,sv aV a5.1 aT] (.bool aA),.run [⟨133,false,(bif (a4.2 != 0) then true else (a5.2 != 0))⟩] (Instr.loadAt 46 (pb a8)) (.agg #[iv a0.Kind,.string a0.Name,iv a0.Time,.string a0.Sweep.Site.Name,iv a0.Sweep.Site.X,iv a0.Sweep.Site.Y,iv a0.Sweep.Site.Z,iv a0.Sweep.Site.Rose,iv a0.Sweep.Site.Gates,iv a0.Sweep.Site.Step,iv a0.Sweep.Site.Width,iv a0.Sweep.Tilt,iv a0.Sweep.Time,sv aC a0.Sweep.Rays aE,iv a0.Field.Grid.X,iv a0.Field.Grid.Y,iv a0.Field.Grid.Size,iv a0.Field.Grid.Wide,iv a0.Field.Grid.High,sv aD a0.Field.Vals aF,.string a0.Text]),.run [⟨133,false,(bif (a4.2 != 0) then true else (a5.2 != 0))⟩] (Instr.loadAt 46 (pb aP)) (.agg #[iv a1.Kind,.string a1.Name,iv a1.Time,.string a1.Sweep.Site.Name,iv a1.Sweep.Site.X,iv a1.Sweep.Site.Y,iv a1.Sweep.Site.Z,iv a1.Sweep.Site.Rose,iv a1.Sweep.Site.Gates,iv a1.Sweep.Site.Step,iv a1.Sweep.Site.Width,iv a1.Sweep.Tilt,iv a1.Sweep.Time,sv aI a1.Sweep.Rays aK,iv a1.Field.Grid.X,iv a1.Field.Grid.Y,iv a1.Field.Grid.Size,iv a1.Field.Grid.Wide,iv a1.Field.Grid.High,sv aJ a1.Field.Vals aL,.string a1.Text]),.call [⟨133,false,(bif (a4.2 != 0) then true else (a5.2 != 0))⟩] 14 #[.agg #[iv a0.Kind,.string a0.Name,iv a0.Time,.string a0.Sweep.Site.Name,iv a0.Sweep.Site.X,iv a0.Sweep.Site.Y,iv a0.Sweep.Site.Z,iv a0.Sweep.Site.Rose,iv a0.Sweep.Site.Gates,iv a0.Sweep.Site.Step,iv a0.Sweep.Site.Width,iv a0.Sweep.Tilt,iv a0.Sweep.Time,sv aC a0.Sweep.Rays aE,iv a0.Field.Grid.X,iv a0.Field.Grid.Y,iv a0.Field.Grid.Size,iv a0.Field.Grid.Wide,iv a0.Field.Grid.High,sv aD a0.Field.Vals aF,.string a0.Text],.agg #[iv a1.Kind,.string a1.Name,iv a1.Time,.string a1.Sweep.Site.Name,iv a1.Sweep.Site.X,iv a1.Sweep.Site.Y,iv a1.Sweep.Site.Z,iv a1.Sweep.Site.Rose,iv a1.Sweep.Site.Gates,iv a1.Sweep.Site.Step,iv a1.Sweep.Site.Width,iv a1.Sweep.Tilt,iv a1.Sweep.Time,sv aI a1.Sweep.Rays aK,iv a1.Field.Grid.X,iv a1.Field.Grid.Y,iv a1.Field.Grid.Size,iv a1.Field.Grid.Wide,iv a1.Field.Grid.High,sv aJ a1.Field.Vals aL,.string a1.Text]] (.bool aB),.run [⟨142,false,(bif (bif (a4.2 != 0) then true else (a5.2 != 0)) then true else (!(aA==aB)))⟩] (Instr.sliceAt 23 (sv aO a4.1 aM) none (some (iv (if (ln a5.1)<(ln a4.1) then (ln a5.1) else (ln a4.1)))) none) (.slice none 0 0),.run [⟨142,false,(bif (bif (a4.2 != 0) then true else (a5.2 != 0)) then true else (!(aA==aB)))⟩] (Instr.sliceAt 23 (sv aV a5.1 aT) none (some (iv (if (ln a5.1)<(ln a4.1) then (ln a5.1) else (ln a4.1)))) none) (.slice none 0 0),.call [⟨142,false,(bif (bif (a4.2 != 0) then true else (a5.2 != 0)) then true else (!(aA==aB)))⟩] 12 #[.slice none 0 0,.slice none 0 0] (.bool false),.call [⟨150,true,false⟩,⟨142,false,(bif (bif (a4.2 != 0) then true else (a5.2 != 0)) then true else (!(aA==aB)))⟩] 12 #[sv aO a4.1 aM,sv aV a5.1 aT] (.bool false)]) 30 [(5,sv a3 y9.1 a2),(16,pb a8),(97,sv a3 y9.1 a2),(98,iv (ln y9.1)),(99,iv a6),(106,.slice (Ai a3 a2 (0:Int).toNat 21) a7.length (a2-(0:Int).toNat)),(107,iv (ln a7)),(108,iv a9),(156,.bool (bif (bif (bif (a4.2 != 0) then true else (a5.2 != 0)) then true else (!(aA==aB))) then true else false))] kr hF kr (A0 (show Ob.ok _ Ext _ _ from fun hk w2 hd=>Fg F a4.1 a5.1 _ ((fun hk=>Eu c1 hk) hk) _ w2 (A7 w2) (Arr.toM ((hS.later hd).arr (i:=1) rfl)) (Arr.toM ((hS.later hd).arr (i:=0) rfl))) (A0 (obN (us:=[iv a0.Kind,.string a0.Name,iv a0.Time,.string a0.Sweep.Site.Name,iv a0.Sweep.Site.X,iv a0.Sweep.Site.Y,iv a0.Sweep.Site.Z,iv a0.Sweep.Site.Rose,iv a0.Sweep.Site.Gates,iv a0.Sweep.Site.Step,iv a0.Sweep.Site.Width,iv a0.Sweep.Tilt,iv a0.Sweep.Time,sv aC a0.Sweep.Rays aE,iv a0.Field.Grid.X,iv a0.Field.Grid.Y,iv a0.Field.Grid.Size,iv a0.Field.Grid.Wide,iv a0.Field.Grid.High,sv aD a0.Field.Vals aF,.string a0.Text]) kr (fun _ hd=>((hS.later hd).blk (i:=3) rfl).cells rfl)) (A0 (obN (us:=[iv a1.Kind,.string a1.Name,iv a1.Time,.string a1.Sweep.Site.Name,iv a1.Sweep.Site.X,iv a1.Sweep.Site.Y,iv a1.Sweep.Site.Z,iv a1.Sweep.Site.Rose,iv a1.Sweep.Site.Gates,iv a1.Sweep.Site.Step,iv a1.Sweep.Site.Width,iv a1.Sweep.Tilt,iv a1.Sweep.Time,sv aI a1.Sweep.Rays aK,iv a1.Field.Grid.X,iv a1.Field.Grid.Y,iv a1.Field.Grid.Size,iv a1.Field.Grid.Wide,iv a1.Field.Grid.High,sv aJ a1.Field.Vals aL,.string a1.Text]) kr (fun _ hd=>((hS.later hd).blk (i:=2) rfl).cells rfl)) (A0 (show Ob.ok _ Ext _ _ from fun hk w2 hd=>J4 F a0 a1 _ ((fun hk=>Eu c2 hk) hk) _ w2 (A7 w2) (bG.mono Rp83.mono (FrzAt.le_mem ((hS.later hd).frz (i:=6) rfl hlow))) (bH.mono (FrzAt.le_mem ((hS.later hd).frz (i:=6) rfl hlow))) (bJ.mono Rp83.mono (FrzAt.le_mem ((hS.later hd).frz (i:=6) rfl hlow))) (bK.mono (FrzAt.le_mem ((hS.later hd).frz (i:=6) rfl hlow)))) (A0 (Xy (Kw (i:=0) (c:=⟨142,false,(bif (bif (a4.2 != 0) then true else (a5.2 != 0)) then true else (!(aA==aB)))⟩) rfl (show ((bif (bif (a4.2 != 0) then true else (a5.2 != 0)) then true else (!(aA==aB)))==false)=false by rw [b2];rfl))) (A0 (Xy (Kw (i:=0) (c:=⟨142,false,(bif (bif (a4.2 != 0) then true else (a5.2 != 0)) then true else (!(aA==aB)))⟩) rfl (show ((bif (bif (a4.2 != 0) then true else (a5.2 != 0)) then true else (!(aA==aB)))==false)=false by rw [b2];rfl))) (A0 (Xz (Kw (i:=0) (c:=⟨142,false,(bif (bif (a4.2 != 0) then true else (a5.2 != 0)) then true else (!(aA==aB)))⟩) rfl (show ((bif (bif (a4.2 != 0) then true else (a5.2 != 0)) then true else (!(aA==aB)))==false)=false by rw [b2];rfl))) (A0 (Xz (Kw (i:=1) (c:=⟨142,false,(bif (bif (a4.2 != 0) then true else (a5.2 != 0)) then true else (!(aA==aB)))⟩) rfl (show ((bif (bif (a4.2 != 0) then true else (a5.2 != 0)) then true else (!(aA==aB)))==false)=false by rw [b2];rfl))) Ab)))))))) ⟨kr⟩ fun a w hF hx=>?_
        replace hS:=hS.later hx
        refine wfn rfl ?_
        refine As hF rfl (fun hc=>?_) (fun hc=>?_)
        ·replace h:=Ao h hc
         refine esr ?_
         refine rn 1 1 [(4,.bool false)] hF fun a hF=>?_
         refine wfn rfl ?_
         refine wpIn_ret (Ap<|Aa<|Aa<|Ap<|Ap<|Aa<|Aa<|Ap<|Aa<|Ak [.tmp 4] [.bool false] hF rfl ⟨rfl,trivial⟩ ?_)
         have hr_:=Option.some.inj h
         subst hr_
         exact ⟨rfl,hS.ext⟩
        ·replace h:=An h hc
         refine wpIn_skip (Ac<|A1<|?_)
         refine WI.region ?_
         replace h:=A5 h
         obtain ⟨bP,cM,h⟩:=h
         refine rno 2 [.run [] (binOp .add 3 (iv a9) (iv 1)) (iv bP)] 2 [(5,sv a3 y9.1 a2),(16,pb a8),(97,sv a3 y9.1 a2),(98,iv (ln y9.1)),(99,iv a6),(106,.slice (Ai a3 a2 (0:Int).toNat 21) a7.length (a2-(0:Int).toNat)),(107,iv (ln a7)),(108,iv bP)] hF (A0 (Ax (fun _=>cM)) Ab) fun a hF=>?_
         refine wfn rfl ?_
         rw [hk5] at h
         exact ⟨nk5,Nat.lt_succ_self _,bP,hF.sub kr,St.pick [3,4,5,6] (by decide) hS,h⟩
       ·replace h:=An h b2
        replace h:=A5 h
        obtain ⟨bM,bZ,h⟩:=h
        replace h:=A5 h
        obtain ⟨bN,c0,h⟩:=h
        replace h:=A5 h
        obtain ⟨bR,cQ,h⟩:=h
        replace h:=A5 h
        obtain ⟨c9,cR,h⟩:=h
        refine Pb (obs:=[.call [⟨133,false,(bif (a4.2 != 0) then true else (a5.2 != 0))⟩] 12 #[sv aO a4.1 aM,sv aV a5.1 aT] (.bool aA),.run [⟨133,false,(bif (a4.2 != 0) then true else (a5.2 != 0))⟩] (Instr.loadAt 46 (pb a8)) (.agg #[iv a0.Kind,.string a0.Name,iv a0.Time,.string a0.Sweep.Site.Name,iv a0.Sweep.Site.X,iv a0.Sweep.Site.Y,iv a0.Sweep.Site.Z,iv a0.Sweep.Site.Rose,iv a0.Sweep.Site.Gates,iv a0.Sweep.Site.Step,iv a0.Sweep.Site.Width,iv a0.Sweep.Tilt,iv a0.Sweep.Time,sv aC a0.Sweep.Rays aE,iv a0.Field.Grid.X,iv a0.Field.Grid.Y,iv a0.Field.Grid.Size,iv a0.Field.Grid.Wide,iv a0.Field.Grid.High,sv aD a0.Field.Vals aF,.string a0.Text]),.run [⟨133,false,(bif (a4.2 != 0) then true else (a5.2 != 0))⟩] (Instr.loadAt 46 (pb aP)) (.agg #[iv a1.Kind,.string a1.Name,iv a1.Time,.string a1.Sweep.Site.Name,iv a1.Sweep.Site.X,iv a1.Sweep.Site.Y,iv a1.Sweep.Site.Z,iv a1.Sweep.Site.Rose,iv a1.Sweep.Site.Gates,iv a1.Sweep.Site.Step,iv a1.Sweep.Site.Width,iv a1.Sweep.Tilt,iv a1.Sweep.Time,sv aI a1.Sweep.Rays aK,iv a1.Field.Grid.X,iv a1.Field.Grid.Y,iv a1.Field.Grid.Size,iv a1.Field.Grid.Wide,iv a1.Field.Grid.High,sv aJ a1.Field.Vals aL,.string a1.Text]),.call [⟨133,false,(bif (a4.2 != 0) then true else (a5.2 != 0))⟩] 14 #[.agg #[iv a0.Kind,.string a0.Name,iv a0.Time,.string a0.Sweep.Site.Name,iv a0.Sweep.Site.X,iv a0.Sweep.Site.Y,iv a0.Sweep.Site.Z,iv a0.Sweep.Site.Rose,iv a0.Sweep.Site.Gates,iv a0.Sweep.Site.Step,iv a0.Sweep.Site.Width,iv a0.Sweep.Tilt,iv a0.Sweep.Time,sv aC a0.Sweep.Rays aE,iv a0.Field.Grid.X,iv a0.Field.Grid.Y,iv a0.Field.Grid.Size,iv a0.Field.Grid.Wide,iv a0.Field.Grid.High,sv aD a0.Field.Vals aF,.string a0.Text],.agg #[iv a1.Kind,.string a1.Name,iv a1.Time,.string a1.Sweep.Site.Name,iv a1.Sweep.Site.X,iv a1.Sweep.Site.Y,iv a1.Sweep.Site.Z,iv a1.Sweep.Site.Rose,iv a1.Sweep.Site.Gates,iv a1.Sweep.Site.Step,iv a1.Sweep.Site.Width,iv a1.Sweep.Tilt,iv a1.Sweep.Time,sv aI a1.Sweep.Rays aK,iv a1.Field.Grid.X,iv a1.Field.Grid.Y,iv a1.Field.Grid.Size,iv a1.Field.Grid.Wide,iv a1.Field.Grid.High,sv aJ a1.Field.Vals aL,.string a1.Text]] (.bool aB),.run [⟨142,false,(bif (bif (a4.2 != 0) then true else (a5.2 != 0)) then true else (!(aA==aB)))⟩] (Instr.sliceAt 23 (sv aO a4.1 aM) none (some (iv (if (ln a5.1)<(ln a4.1) then (ln a5.1) else (ln a4.1)))) none) (.slice (Ai aO aM (0:Int).toNat 1) bM.length (aM-(0:Int).toNat)),.run [⟨142,false,(bif (bif (a4.2 != 0) then true else (a5.2 != 0)) then true else (!(aA==aB)))⟩] (Instr.sliceAt 23 (sv aV a5.1 aT) none (some (iv (if (ln a5.1)<(ln a4.1) then (ln a5.1) else (ln a4.1)))) none) (.slice (Ai aV aT (0:Int).toNat 1) bN.length (aT-(0:Int).toNat)),.call [⟨142,false,(bif (bif (a4.2 != 0) then true else (a5.2 != 0)) then true else (!(aA==aB)))⟩] 12 #[.slice (Ai aO aM (0:Int).toNat 1) bM.length (aM-(0:Int).toNat),.slice (Ai aV aT (0:Int).toNat 1) bN.length (aT-(0:Int).toNat)] (.bool bR),.call [⟨150,true,bR⟩,⟨142,false,(bif (bif (a4.2 != 0) then true else (a5.2 != 0)) then true else (!(aA==aB)))⟩] 12 #[sv aO a4.1 aM,sv aV a5.1 aT] (.bool c9)]) 30 [(5,sv a3 y9.1 a2),(16,pb a8),(97,sv a3 y9.1 a2),(98,iv (ln y9.1)),(99,iv a6),(106,.slice (Ai a3 a2 (0:Int).toNat 21) a7.length (a2-(0:Int).toNat)),(107,iv (ln a7)),(108,iv a9),(156,.bool (bif (bif (bif (a4.2 != 0) then true else (a5.2 != 0)) then true else (!(aA==aB))) then true else (bif bR then (!c9) else false)))] kr hF kr (A0 (show Ob.ok _ Ext _ _ from fun hk w2 hd=>Fg F a4.1 a5.1 _ ((fun hk=>Eu c1 hk) hk) _ w2 (A7 w2) (Arr.toM ((hS.later hd).arr (i:=1) rfl)) (Arr.toM ((hS.later hd).arr (i:=0) rfl))) (A0 (obN (us:=[iv a0.Kind,.string a0.Name,iv a0.Time,.string a0.Sweep.Site.Name,iv a0.Sweep.Site.X,iv a0.Sweep.Site.Y,iv a0.Sweep.Site.Z,iv a0.Sweep.Site.Rose,iv a0.Sweep.Site.Gates,iv a0.Sweep.Site.Step,iv a0.Sweep.Site.Width,iv a0.Sweep.Tilt,iv a0.Sweep.Time,sv aC a0.Sweep.Rays aE,iv a0.Field.Grid.X,iv a0.Field.Grid.Y,iv a0.Field.Grid.Size,iv a0.Field.Grid.Wide,iv a0.Field.Grid.High,sv aD a0.Field.Vals aF,.string a0.Text]) kr (fun _ hd=>((hS.later hd).blk (i:=3) rfl).cells rfl)) (A0 (obN (us:=[iv a1.Kind,.string a1.Name,iv a1.Time,.string a1.Sweep.Site.Name,iv a1.Sweep.Site.X,iv a1.Sweep.Site.Y,iv a1.Sweep.Site.Z,iv a1.Sweep.Site.Rose,iv a1.Sweep.Site.Gates,iv a1.Sweep.Site.Step,iv a1.Sweep.Site.Width,iv a1.Sweep.Tilt,iv a1.Sweep.Time,sv aI a1.Sweep.Rays aK,iv a1.Field.Grid.X,iv a1.Field.Grid.Y,iv a1.Field.Grid.Size,iv a1.Field.Grid.Wide,iv a1.Field.Grid.High,sv aJ a1.Field.Vals aL,.string a1.Text]) kr (fun _ hd=>((hS.later hd).blk (i:=2) rfl).cells rfl)) (A0 (show Ob.ok _ Ext _ _ from fun hk w2 hd=>J4 F a0 a1 _ ((fun hk=>Eu c2 hk) hk) _ w2 (A7 w2) (bG.mono Rp83.mono (FrzAt.le_mem ((hS.later hd).frz (i:=6) rfl hlow))) (bH.mono (FrzAt.le_mem ((hS.later hd).frz (i:=6) rfl hlow))) (bJ.mono Rp83.mono (FrzAt.le_mem ((hS.later hd).frz (i:=6) rfl hlow))) (bK.mono (FrzAt.le_mem ((hS.later hd).frz (i:=6) rfl hlow)))) (A0 (Ni kr (hS.arr (i:=1) rfl) (fun _=>bZ)) (A0 (Ni kr (hS.arr (i:=0) rfl) (fun _=>c0)) (A0 (show Ob.ok _ Ext _ _ from fun hk w2 hd=>Fg F bM bN _ ((fun _=>cQ) hk) _ w2 (A7 w2) (Arr.toM (((hS.later hd).arr (i:=1) rfl).cutD (C7 .u8) bZ)) (Arr.toM (((hS.later hd).arr (i:=0) rfl).cutD (C7 .u8) c0))) (A0 (show Ob.ok _ Ext _ _ from fun hk w2 hd=>Fg F a4.1 a5.1 _ ((fun hk=>Eu cR hk) hk) _ w2 (A7 w2) (Arr.toM ((hS.later hd).arr (i:=1) rfl)) (Arr.toM ((hS.later hd).arr (i:=0) rfl))) Ab)))))))) ⟨kr⟩ fun a w hF hx=>?_
        replace hS:=hS.later hx
        refine wfn rfl ?_
        refine As hF rfl (fun hc=>?_) (fun hc=>?_)
        ·replace h:=Ao h hc
         refine esr ?_
         refine rn 1 1 [(4,.bool false)] hF fun a hF=>?_
         refine wfn rfl ?_
         refine wpIn_ret (Ap<|Aa<|Aa<|Ap<|Ap<|Aa<|Aa<|Ap<|Aa<|Ak [.tmp 4] [.bool false] hF rfl ⟨rfl,trivial⟩ ?_)
         have hr_:=Option.some.inj h
         subst hr_
         exact ⟨rfl,hS.ext⟩
        ·replace h:=An h hc
         refine wpIn_skip (Ac<|A1<|?_)
         refine WI.region ?_
         replace h:=A5 h
         obtain ⟨bQ,cN,h⟩:=h
         refine rno 2 [.run [] (binOp .add 3 (iv a9) (iv 1)) (iv bQ)] 2 [(5,sv a3 y9.1 a2),(16,pb a8),(97,sv a3 y9.1 a2),(98,iv (ln y9.1)),(99,iv a6),(106,.slice (Ai a3 a2 (0:Int).toNat 21) a7.length (a2-(0:Int).toNat)),(107,iv (ln a7)),(108,iv bQ)] hF (A0 (Ax (fun _=>cN)) Ab) fun a hF=>?_
         refine wfn rfl ?_
         rw [hk5] at h
         exact ⟨nk5,Nat.lt_succ_self _,bQ,hF.sub kr,St.pick [3,4,5,6] (by decide) hS,h⟩
      ·replace h:=An h hc
       refine wpIn_exit (Ae<|Ae<|B8<|Ac<|A1<|?_)
       exact ⟨hF.sub kr,St.pick [1,2,3] (by decide) hS,h⟩
     rintro a w ⟨hF,hS,h⟩
     rw [E7] at h
     refine WI.region ?_
     replace h:=A5 h
     obtain ⟨bO,cL,h⟩:=h
     refine rno 2 [.run [] (binOp .add 3 (iv a6) (iv 1)) (iv bO)] 2 [(5,sv a3 y9.1 a2),(97,sv a3 y9.1 a2),(98,iv (ln y9.1)),(99,iv bO)] hF (A0 (Ax (fun _=>cL)) Ab) fun a hF=>?_
     refine wfn rfl ?_
     rw [hk3] at h
     exact ⟨nk3,Nat.lt_succ_self _,bO,hF.sub kr,St.pick [0,1,2] (by decide) hS,h⟩
    ·replace h:=An h hc
     refine wpIn_exit (Ae<|Ae<|B8<|A1 ?_)
     exact ⟨hF.sub kr,St.pick [0,1,2] (by decide) hS,h⟩
   rintro a w ⟨hF,hS,h⟩
   rw [Gh] at h
   refine esr ?_
   replace h:=A5 h
   obtain ⟨bT,cZ,h⟩:=h
   refine rx 2 [.call [] 8 #[] (.bool bT)] 2 [(4,.bool bT)] hF (A0 (show Ob.ok _ Ext _ _ from fun hk w2 hd=>Nf F  _ ((fun _=>cZ) hk) _ w2 (A7 w2)) Ab) fun a w hF hx=>?_
   replace hS:=hS.later hx
   refine wfn rfl ?_
   refine wpIn_ret (Ak [.tmp 4] [.bool bT] hF rfl ⟨rfl,trivial⟩ ?_)
   have hr_:=Option.some.inj h
   subst hr_
   exact ⟨rfl,hS.ext⟩
end Go.Proofs.Ytifbomimeodibaa
