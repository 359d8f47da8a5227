import Derived.Test.YtifbomimeodibaaGreatV4XD
import Derived.Test.YtifbomimeodibaaGreatProg
import Derived.Test.YtifbomimeodibaaGreatV4XW0
import Derived.Test.YtifbomimeodibaaGreatV4XW8
import Derived.Test.YtifbomimeodibaaGreatV4XW13
import Derived.Test.YtifbomimeodibaaGreatV4XW14
import Derived.Test.YtifbomimeodibaaGreatV4XW15
namespace Go.Proofs.YtifbomimeodibaaGreat
open Go Go.RowKit Go.Eng
set_option maxRecDepth 10000
set_option maxHeartbeats 4000000
set_option linter.unusedVariables false
set_option linter.unusedSimpArgs false
theorem Tx (F:Nat) (p0:(List ref12_Item)) (res:((List Int)×Int)) (h:Ju F p0=some res) (μ:Frz) (w0:World) (hm:FrzAt μ w0) {ad1:Option Addr} {cap2:Nat} {css3:List (List Value)} (hA4:ArrQ μ 21 Rp49 ad1 cap2 css3 p0):Bj Tryz.prog 22 #[sv ad1 p0 cap2] w0 (fun e w=>∃zad0 zcap0,e=(.tuple #[sv zad0 res.1 zcap0,iv res.2])∧St w0 [arrT 5 1 (fK .u8) zad0 res.1.length zcap0 res.1] w):=by
 obtain ⟨hlow,hS⟩:=hm.init
 have hext:=Frz.ext_refl w0.heap.size μ
 rw [Ju] at h
 refine Ag Tryz.func22 rfl 30 [(0,sv ad1 p0 cap2)] rfl rfl kr fun a w hw hF=>?_
 replace hS:=hS.cast hw
 clear hw
 refine qnB [] hF fun a hF=>?_
 refine Ar ?_
 refine qnB [(9,.bool (decide ((ln p0)>1000)))] hF fun a hF=>?_
 refine Aj hF rfl (fun hc=>?_) (fun hc=>?_)
 ·replace h:=Af h hc
  refine rnB [(2,.slice none 0 0),(3,iv 9)] hF fun a hF=>?_
  refine wpIn_ret (A6<|Ad [.tmp 2,.tmp 3] [.slice none 0 0,iv 9] hF rfl ⟨rfl,rfl,trivial⟩ ?_)
  obtain rfl:=Ao h
  replace hS:=hS.nilT 5 1 (fK .u8)
  exact ⟨_,rfl,_,_,rfl,St.pick [0] (by decide) hS⟩
 ·replace h:=Ae h hc
  refine wpIn_skip (A0 ?_)
  refine D9 (fun a w=>Fr 30 [] [(0,sv ad1 p0 cap2)] a∧St w0 [fz w0 μ] w∧Hj F p0=some res) ?_ ?_
  ·skip
   refine qnB [(4,iv 0)] hF fun a hF=>?_
   refine wpIn_block ?_
   refine Ci (fun n_ a w=>∃(a0:Int),Fr 30 [] [(0,sv ad1 p0 cap2),(4,iv a0)] a∧St w0 [fz w0 μ] w∧Gd F p0 n_ a0=some res) F ⟨0,hF.sub kr,St.pick [0] (by decide) hS,h⟩ ?_
   rintro nk2 a w ⟨a0,hF,hS,h⟩
   rcases nk2 with _|nk2
   ·cases (show (none:Option ((List Int)×Int))=some res from h)
   obtain ⟨k2,hk2⟩:∃k,k=Gd F p0 nk2:=⟨_,rfl⟩
   replace h:K7 F p0 k2 a0=some res:=by rw [hk2];exact h
   rw [K7] at h
   refine Ar ?_
   refine qnB [(13,.bool (decide (a0<(ln p0))))] hF fun a hF=>?_
   refine Aj hF rfl (fun hc=>?_) (fun hc=>?_)
   ·replace h:=Af h hc
    refine wpIn_skip (A0 ?_)
    refine Ar ?_
    refine wpIn_block ?_
    refine esr ?_
    obtain ⟨aF,aB,h⟩:=A1 h
    obtain ⟨aK,a5,aA⟩:=Bd hA4.2 aB
    obtain ⟨aG,aI,aL,aH,aJ,rfl,a8,a9⟩:=aA
    obtain ⟨a2,aE,h⟩:=A1 h
    refine qx 6 6 [(5,iv a2)] hF (oI 28 (hA4.at (hS.frz (i:=0) rfl hlow)) a5<|oG 49 0 21 (Bz 21) (fun _ hd=>(hA4.at ((hS.later hd).frz (i:=0) rfl hlow))) a5<|oC (fun w2 hd=>Mk F aF _ aE _ w2 (A5 w2) (a8.mono Rp87.mono (FrzAt.le_mem ((hS.later hd).frz (i:=0) rfl hlow))) (a9.mono (FrzAt.le_mem ((hS.later hd).frz (i:=0) rfl hlow))))<|A9) fun a w hF hx=>?_
    replace hS:=hS.later hx
    refine wfn rfl ?_
    refine qnB [(22,.bool (a2 != 0))] hF fun a hF=>?_
    refine Aj hF rfl (fun hc=>?_) (fun hc=>?_)
    ·replace h:=Af h hc
     refine rnB [(2,.slice none 0 0),(3,iv a2)] hF fun a hF=>?_
     refine wpIn_ret (Ai<|A6<|A6<|Ai<|A6<|Ad [.tmp 2,.tmp 3] [.slice none 0 0,iv a2] hF rfl ⟨rfl,rfl,trivial⟩ ?_)
     obtain rfl:=Ao h
     replace hS:=hS.nilT 5 1 (fK .u8)
     exact ⟨_,rfl,_,_,rfl,St.pick [0] (by decide) hS⟩
    ·replace h:=Ae h hc
     refine wpIn_skip (Ab<|A0<|?_)
     refine WI.region ?_
     obtain ⟨a7,aC,h⟩:=A1 h
     refine ro 3 3 [(0,sv ad1 p0 cap2),(4,iv a7)] hF (oA 3 aC<|A9) fun a hF=>?_
     refine wfn rfl ?_
     rw [hk2] at h
     exact ⟨nk2,Nat.lt_succ_self _,a7,hF.sub kr,St.pick [0] (by decide) hS,h⟩
   ·replace h:=Ae h hc
    refine wpIn_exit (Aa<|Aa<|Av<|A0 ?_)
    exact ⟨hF.sub kr,St.pick [0] (by decide) hS,h⟩
  rintro a w ⟨hF,hS,h⟩
  rw [Hj] at h
  refine esr ?_
  refine rn 1 1 [(24,sv ad1 p0 cap2)] hF fun a hF=>?_
  obtain ⟨a1,aD,h⟩:=A1 h
  refine SK.wi (rR (fun a6=>[(25,a6)]) hF (Ug F _ _ aD (Ay w) w (A5 w) (hA4.mono Rp49.mono (FrzAt.le_mem (hS.frz (i:=0) rfl hlow)))) ?_)
  rintro a6 w a ⟨a3,a4,rfl,hQ⟩ hF
  replace hS:=hS.madeL hQ
  refine rn 1 3 [(6,sv a3 a1 a4)] hF fun a hF=>?_
  refine wfn rfl ?_
  refine Ar ?_
  refine qnB [(28,.bool (decide ((ln a1)>16777216)))] hF fun a hF=>?_
  refine Aj hF rfl (fun hc=>?_) (fun hc=>?_)
  ·replace h:=Af h hc
   refine rnB [(2,.slice none 0 0),(3,iv 8)] hF fun a hF=>?_
   refine wpIn_ret (A6<|Ad [.tmp 2,.tmp 3] [.slice none 0 0,iv 8] hF rfl ⟨rfl,rfl,trivial⟩ ?_)
   obtain rfl:=Ao h
   replace hS:=hS.nilT 5 1 (fK .u8)
   exact ⟨_,rfl,_,_,rfl,St.pick [0] (by decide) hS⟩
  ·replace h:=Ae h hc
   refine wpIn_skip (A0 ?_)
   refine rnB [(2,sv a3 a1 a4),(3,iv 0)] hF fun a hF=>?_
   refine wpIn_ret (Ad [.tmp 2,.tmp 3] [sv a3 a1 a4,iv 0] hF rfl ⟨rfl,rfl,trivial⟩ ?_)
   obtain rfl:=Ao h
   exact ⟨_,rfl,_,_,rfl,St.pick [0] (by decide) hS⟩
theorem Pd (F:Nat) (p0:(List ref12_Item)) (res:Bool) (h:F4 F p0=some res) (μ:Frz) (w0:World) (hm:FrzAt μ w0) {ad1:Option Addr} {cap2:Nat} {css3:List (List Value)} (hA4:ArrQ μ 21 Rp49 ad1 cap2 css3 p0):Calls Tryz.prog 4 #[sv ad1 p0 cap2] w0 (fun e w=>e=.returned (.bool res)∧Ext w0 w):=by
 obtain ⟨hlow,hS⟩:=hm.init
 have hext:=Frz.ext_refl w0.heap.size μ
 rw [F4] at h
 refine Ag Tryz.func4 rfl 82 [(0,sv ad1 p0 cap2)] rfl rfl kr fun a w hw hF=>?_
 replace hS:=hS.cast hw
 clear hw
 refine qnB [] hF fun a hF=>?_
 refine Ar ?_
 refine esr ?_
 obtain ⟨y5,hy5,h⟩:=A1 h
 refine qx 3 3 [(14,.bool (!y5))] hF (oC (fun w2 hd=>Sr F p0 _ hy5 _ w2 (A5 w2) (hA4.mono Rp49.mono (FrzAt.le_mem ((hS.later hd).frz (i:=0) rfl hlow))))<|A9) fun a w hF hx=>?_
 replace hS:=hS.later hx
 refine wfn rfl ?_
 refine Aj hF rfl (fun hc=>?_) (fun hc=>?_)
 ·replace h:=Af h hc
  refine esr ?_
  obtain ⟨y6,hy6,h⟩:=A1 h
  refine rX 2 2 [(2,.bool y6)] hF (oC (fun w2 hd=>Po F  _ hy6 _ w2 (A5 w2))<|A9) fun a w hF hx=>?_
  replace hS:=hS.later hx
  refine wfn rfl ?_
  refine wpIn_ret (A6<|Ad [.tmp 2] [.bool y6] hF rfl ⟨rfl,trivial⟩ ?_)
  obtain rfl:=Ao h
  exact ⟨rfl,hS.ext⟩
 ·replace h:=Ae h hc
  refine wpIn_skip (A0 ?_)
  refine D9 (fun a w=>Fr 82 [] [(0,sv ad1 p0 cap2)] a∧St w0 [fz w0 μ] w∧E3 F p0=some res) ?_ ?_
  ·skip
   refine qnB [(3,iv 0)] hF fun a hF=>?_
   refine wpIn_block ?_
   refine Ci (fun n_ a w=>∃(a7:Int),Fr 82 [] [(0,sv ad1 p0 cap2),(3,iv a7)] a∧St w0 [fz w0 μ] w∧D6 F p0 n_ a7=some res) F ⟨0,hF.sub kr,St.pick [0] (by decide) hS,h⟩ ?_
   rintro nk2 a w ⟨a7,hF,hS,h⟩
   rcases nk2 with _|nk2
   ·cases (show (none:Option Bool)=some res from h)
   obtain ⟨k2,hk2⟩:∃k,k=D6 F p0 nk2:=⟨_,rfl⟩
   replace h:F9 F p0 k2 a7=some res:=by rw [hk2];exact h
   rw [F9] at h
   refine Ar ?_
   refine qnB [(19,.bool (decide (a7<(ln p0))))] hF fun a hF=>?_
   refine Aj hF rfl (fun hc=>?_) (fun hc=>?_)
   ·replace h:=Af h hc
    refine wpIn_skip (A0 ?_)
    refine Ar ?_
    refine wpIn_block ?_
    refine esr ?_
    obtain ⟨a5,bT,h⟩:=A1 h
    obtain ⟨cA,aM,bO⟩:=Bd hA4.2 bT
    obtain ⟨b2,bA,cF,b3,bB,rfl,bG,bH⟩:=bO
    refine qo 4 4 [(26,.agg #[iv a5.Kind,.string a5.Name,iv a5.Time,.string a5.Sweep.Site.Name,iv a5.Sweep.Site.X,iv a5.Sweep.Site.Y,iv a5.Sweep.Site.Z,iv a5.Sweep.Site.Rose,iv a5.Sweep.Site.Gates,iv a5.Sweep.Site.Step,iv a5.Sweep.Site.Width,iv a5.Sweep.Tilt,iv a5.Sweep.Time,sv b2 a5.Sweep.Rays bA,iv a5.Field.Grid.X,iv a5.Field.Grid.Y,iv a5.Field.Grid.Size,iv a5.Field.Grid.Wide,iv a5.Field.Grid.High,sv b3 a5.Field.Vals bB,.string a5.Text])] hF (oI 28 (hA4.at (hS.frz (i:=0) rfl hlow)) aM<|oG 49 0 21 (Bz 21) (fun _ hd=>(hA4.at ((hS.at_ hd).frz (i:=0) rfl hlow))) aM<|A9) fun a hF=>?_
    obtain ⟨a2,c4,h⟩:=A1 h
    refine SK.wi (qR (fun aU=>[(27,aU)]) hF (Mn F _ _ c4 (Ay w) w (A5 w) (bG.mono Rp87.mono (FrzAt.le_mem (hS.frz (i:=0) rfl hlow))) (bH.mono (FrzAt.le_mem (hS.frz (i:=0) rfl hlow)))) ?_)
    rintro aU w a ⟨b4,bC,rfl,hQ⟩ hF
    replace hS:=hS.madeL hQ
    refine qn 5 10 [(4,sv b4 a2.1 bC),(5,iv a2.2)] hF fun a hF=>?_
    refine wfn rfl ?_
    refine esr ?_
    obtain ⟨a6,bU,h⟩:=A1 h
    obtain ⟨cB,aN,bP⟩:=Bd hA4.2 bU
    obtain ⟨b5,bD,cG,b6,bE,rfl,bI,bJ⟩:=bP
    refine qo 4 4 [(34,.agg #[iv a6.Kind,.string a6.Name,iv a6.Time,.string a6.Sweep.Site.Name,iv a6.Sweep.Site.X,iv a6.Sweep.Site.Y,iv a6.Sweep.Site.Z,iv a6.Sweep.Site.Rose,iv a6.Sweep.Site.Gates,iv a6.Sweep.Site.Step,iv a6.Sweep.Site.Width,iv a6.Sweep.Tilt,iv a6.Sweep.Time,sv b5 a6.Sweep.Rays bD,iv a6.Field.Grid.X,iv a6.Field.Grid.Y,iv a6.Field.Grid.Size,iv a6.Field.Grid.Wide,iv a6.Field.Grid.High,sv b6 a6.Field.Vals bE,.string a6.Text])] hF (oI 28 (hA4.at (hS.frz (i:=1) rfl hlow)) aN<|oG 49 0 21 (Bz 21) (fun _ hd=>(hA4.at ((hS.at_ hd).frz (i:=1) rfl hlow))) aN<|A9) fun a hF=>?_
    obtain ⟨a3,c5,h⟩:=A1 h
    refine SK.wi (qR (fun aV=>[(35,aV)]) hF (Ud F _ _ c5 (Ay w) w (A5 w) (bI.mono Rp87.mono (FrzAt.le_mem (hS.frz (i:=1) rfl hlow))) (bJ.mono (FrzAt.le_mem (hS.frz (i:=1) rfl hlow)))) ?_)
    rintro aV w a ⟨b7,bF,rfl,hQ⟩ hF
    replace hS:=hS.madeL hQ
    refine qn 5 10 [(6,sv b7 a3.1 bF),(7,iv a3.2)] hF fun a hF=>?_
    refine wfn rfl ?_
    refine Ar ?_
    obtain ⟨a4,aQ,h⟩:=A1 h
    rcases Bool.eq_false_or_eq_true ((bif (!a4) then true else (a2.2 != a3.2))) with a8|a8
    ·replace h:=Af h a8
     refine qD 22 [(59,.bool (bif (bif (!a4) then true else (a2.2 != a3.2)) then true else (0 != 0)))] hF (oC (fun w2 hd=>Hc F a2.1 a3.1 _ aQ _ w2 (A5 w2) (Arr.toM ((hS.later hd).arr (i:=1) rfl)) (Arr.toM ((hS.later hd).arr (i:=0) rfl)))<|oX (.run [⟨47,false,(bif (!a4) then true else (a2.2 != a3.2))⟩] (Instr.indexAt 28 (sv ad1 p0 cap2) (iv a7)) (pb 0)) (Wo (J7 (i:=0) (c:=⟨47,false,(bif (!a4) then true else (a2.2 != a3.2))⟩) rfl (show ((bif (!a4) then true else (a2.2 != a3.2))==false)=false by rw [a8];rfl)))<|oX (.run [⟨47,false,(bif (!a4) then true else (a2.2 != a3.2))⟩] (Instr.loadAt 49 (pb 0)) (.agg #[iv 0,.string ByteArray.empty,iv 0,.string ByteArray.empty,iv 0,iv 0,iv 0,iv 0,iv 0,iv 0,iv 0,iv 0,iv 0,.slice none 0 0,iv 0,iv 0,iv 0,iv 0,iv 0,.slice none 0 0,.string ByteArray.empty])) (Wo (J7 (i:=0) (c:=⟨47,false,(bif (!a4) then true else (a2.2 != a3.2))⟩) rfl (show ((bif (!a4) then true else (a2.2 != a3.2))==false)=false by rw [a8];rfl)))<|oX (.call [⟨47,false,(bif (!a4) then true else (a2.2 != a3.2))⟩] 19 #[.agg #[iv 0,.string ByteArray.empty,iv 0,.string ByteArray.empty,iv 0,iv 0,iv 0,iv 0,iv 0,iv 0,iv 0,iv 0,iv 0,.slice none 0 0,iv 0,iv 0,iv 0,iv 0,iv 0,.slice none 0 0,.string ByteArray.empty]] (iv 0)) (Yy (J7 (i:=0) (c:=⟨47,false,(bif (!a4) then true else (a2.2 != a3.2))⟩) rfl (show ((bif (!a4) then true else (a2.2 != a3.2))==false)=false by rw [a8];rfl)))<|oX (.run [⟨47,false,(bif (!a4) then true else (a2.2 != a3.2))⟩] (Instr.indexAt 28 (sv ad1 p0 cap2) (iv a7)) (pb 0)) (Wo (J7 (i:=0) (c:=⟨47,false,(bif (!a4) then true else (a2.2 != a3.2))⟩) rfl (show ((bif (!a4) then true else (a2.2 != a3.2))==false)=false by rw [a8];rfl)))<|oX (.run [⟨47,false,(bif (!a4) then true else (a2.2 != a3.2))⟩] (Instr.loadAt 49 (pb 0)) (.agg #[iv 0,.string ByteArray.empty,iv 0,.string ByteArray.empty,iv 0,iv 0,iv 0,iv 0,iv 0,iv 0,iv 0,iv 0,iv 0,.slice none 0 0,iv 0,iv 0,iv 0,iv 0,iv 0,.slice none 0 0,.string ByteArray.empty])) (Wo (J7 (i:=0) (c:=⟨47,false,(bif (!a4) then true else (a2.2 != a3.2))⟩) rfl (show ((bif (!a4) then true else (a2.2 != a3.2))==false)=false by rw [a8];rfl)))<|oX (.call [⟨47,false,(bif (!a4) then true else (a2.2 != a3.2))⟩] 20 #[.agg #[iv 0,.string ByteArray.empty,iv 0,.string ByteArray.empty,iv 0,iv 0,iv 0,iv 0,iv 0,iv 0,iv 0,iv 0,iv 0,.slice none 0 0,iv 0,iv 0,iv 0,iv 0,iv 0,.slice none 0 0,.string ByteArray.empty]] (iv 0)) (Yy (J7 (i:=0) (c:=⟨47,false,(bif (!a4) then true else (a2.2 != a3.2))⟩) rfl (show ((bif (!a4) then true else (a2.2 != a3.2))==false)=false by rw [a8];rfl)))<|A9) fun a w hF hx=>?_
     replace hS:=hS.later hx
     refine wfn rfl ?_
     refine Aj hF rfl (fun hc=>?_) (fun hc=>?_)
     ·replace h:=Af h hc
      refine rnB [(2,.bool false)] hF fun a hF=>?_
      refine wpIn_ret (Ai<|A6<|A6<|Ai<|A6<|Ad [.tmp 2] [.bool false] hF rfl ⟨rfl,trivial⟩ ?_)
      obtain rfl:=Ao h
      exact ⟨rfl,hS.ext⟩
     ·replace h:=Ae h hc
      refine wpIn_skip (Ab<|A0<|?_)
      refine WI.region ?_
      obtain ⟨aW,bX,h⟩:=A1 h
      refine ro 3 3 [(0,sv ad1 p0 cap2),(3,iv aW)] hF (oA 3 bX<|A9) fun a hF=>?_
      refine wfn rfl ?_
      rw [hk2] at h
      exact ⟨nk2,Nat.lt_succ_self _,aW,hF.sub kr,St.pick [2] (by decide) hS,h⟩
    ·replace h:=Ae h a8
     obtain ⟨a0,bV,h⟩:=A1 h
     obtain ⟨cC,aO,bQ⟩:=Bd hA4.2 bV
     obtain ⟨aB,aF,cH,aC,aG,rfl,bK,bL⟩:=bQ
     obtain ⟨aY,c6,h⟩:=A1 h
     obtain ⟨a1,bW,h⟩:=A1 h
     obtain ⟨cD,aP,bR⟩:=Bd hA4.2 bW
     obtain ⟨aD,aH,cI,aE,aI,rfl,bM,bN⟩:=bR
     obtain ⟨aZ,c7,h⟩:=A1 h
     refine qD 22 [(59,.bool (bif (bif (!a4) then true else (a2.2 != a3.2)) then true else (aY != aZ)))] hF (oC (fun w2 hd=>Hc F a2.1 a3.1 _ aQ _ w2 (A5 w2) (Arr.toM ((hS.later hd).arr (i:=1) rfl)) (Arr.toM ((hS.later hd).arr (i:=0) rfl)))<|oX (.run [⟨47,false,(bif (!a4) then true else (a2.2 != a3.2))⟩] (Instr.indexAt 28 (sv ad1 p0 cap2) (iv a7)) (.pointer (some (Bc ad1 a7 21)))) (Gj (hA4.at (hS.frz (i:=2) rfl hlow)) kr (fun _=>aO))<|oX (.run [⟨47,false,(bif (!a4) then true else (a2.2 != a3.2))⟩] (Instr.loadAt 49 (.pointer (some (Bc ad1 a7 21)))) (.agg #[iv a0.Kind,.string a0.Name,iv a0.Time,.string a0.Sweep.Site.Name,iv a0.Sweep.Site.X,iv a0.Sweep.Site.Y,iv a0.Sweep.Site.Z,iv a0.Sweep.Site.Rose,iv a0.Sweep.Site.Gates,iv a0.Sweep.Site.Step,iv a0.Sweep.Site.Width,iv a0.Sweep.Tilt,iv a0.Sweep.Time,sv aB a0.Sweep.Rays aF,iv a0.Field.Grid.X,iv a0.Field.Grid.Y,iv a0.Field.Grid.Size,iv a0.Field.Grid.Wide,iv a0.Field.Grid.High,sv aC a0.Field.Vals aG,.string a0.Text])) (Nx (m:=21) (i:=a7) (us:=[iv a0.Kind,.string a0.Name,iv a0.Time,.string a0.Sweep.Site.Name,iv a0.Sweep.Site.X,iv a0.Sweep.Site.Y,iv a0.Sweep.Site.Z,iv a0.Sweep.Site.Rose,iv a0.Sweep.Site.Gates,iv a0.Sweep.Site.Step,iv a0.Sweep.Site.Width,iv a0.Sweep.Tilt,iv a0.Sweep.Time,sv aB a0.Sweep.Rays aF,iv a0.Field.Grid.X,iv a0.Field.Grid.Y,iv a0.Field.Grid.Size,iv a0.Field.Grid.Wide,iv a0.Field.Grid.High,sv aC a0.Field.Vals aG,.string a0.Text]) 0 (Bz 21) (fun _ hd=>(hA4.at ((hS.later hd).frz (i:=2) rfl hlow))) kr (fun _=>aO) ⟨rfl,rfl⟩)<|oX (.call [⟨47,false,(bif (!a4) then true else (a2.2 != a3.2))⟩] 19 #[.agg #[iv a0.Kind,.string a0.Name,iv a0.Time,.string a0.Sweep.Site.Name,iv a0.Sweep.Site.X,iv a0.Sweep.Site.Y,iv a0.Sweep.Site.Z,iv a0.Sweep.Site.Rose,iv a0.Sweep.Site.Gates,iv a0.Sweep.Site.Step,iv a0.Sweep.Site.Width,iv a0.Sweep.Tilt,iv a0.Sweep.Time,sv aB a0.Sweep.Rays aF,iv a0.Field.Grid.X,iv a0.Field.Grid.Y,iv a0.Field.Grid.Size,iv a0.Field.Grid.Wide,iv a0.Field.Grid.High,sv aC a0.Field.Vals aG,.string a0.Text]] (iv aY)) (show Ob.ok _ Ext _ _ from fun hk w2 hd=>Sv F (volume_Item.mk a0.Kind a0.Name a0.Time a0.Sweep a0.Field a0.Text) _ ((fun _=>c6) hk) _ w2 (A5 w2) (bK.mono Rp87.mono (FrzAt.le_mem ((hS.later hd).frz (i:=2) rfl hlow))) (bL.mono (FrzAt.le_mem ((hS.later hd).frz (i:=2) rfl hlow))))<|oX (.run [⟨47,false,(bif (!a4) then true else (a2.2 != a3.2))⟩] (Instr.indexAt 28 (sv ad1 p0 cap2) (iv a7)) (.pointer (some (Bc ad1 a7 21)))) (Gj (hA4.at (hS.frz (i:=2) rfl hlow)) kr (fun _=>aP))<|oX (.run [⟨47,false,(bif (!a4) then true else (a2.2 != a3.2))⟩] (Instr.loadAt 49 (.pointer (some (Bc ad1 a7 21)))) (.agg #[iv a1.Kind,.string a1.Name,iv a1.Time,.string a1.Sweep.Site.Name,iv a1.Sweep.Site.X,iv a1.Sweep.Site.Y,iv a1.Sweep.Site.Z,iv a1.Sweep.Site.Rose,iv a1.Sweep.Site.Gates,iv a1.Sweep.Site.Step,iv a1.Sweep.Site.Width,iv a1.Sweep.Tilt,iv a1.Sweep.Time,sv aD a1.Sweep.Rays aH,iv a1.Field.Grid.X,iv a1.Field.Grid.Y,iv a1.Field.Grid.Size,iv a1.Field.Grid.Wide,iv a1.Field.Grid.High,sv aE a1.Field.Vals aI,.string a1.Text])) (Nx (m:=21) (i:=a7) (us:=[iv a1.Kind,.string a1.Name,iv a1.Time,.string a1.Sweep.Site.Name,iv a1.Sweep.Site.X,iv a1.Sweep.Site.Y,iv a1.Sweep.Site.Z,iv a1.Sweep.Site.Rose,iv a1.Sweep.Site.Gates,iv a1.Sweep.Site.Step,iv a1.Sweep.Site.Width,iv a1.Sweep.Tilt,iv a1.Sweep.Time,sv aD a1.Sweep.Rays aH,iv a1.Field.Grid.X,iv a1.Field.Grid.Y,iv a1.Field.Grid.Size,iv a1.Field.Grid.Wide,iv a1.Field.Grid.High,sv aE a1.Field.Vals aI,.string a1.Text]) 0 (Bz 21) (fun _ hd=>(hA4.at ((hS.later hd).frz (i:=2) rfl hlow))) kr (fun _=>aP) ⟨rfl,rfl⟩)<|oX (.call [⟨47,false,(bif (!a4) then true else (a2.2 != a3.2))⟩] 20 #[.agg #[iv a1.Kind,.string a1.Name,iv a1.Time,.string a1.Sweep.Site.Name,iv a1.Sweep.Site.X,iv a1.Sweep.Site.Y,iv a1.Sweep.Site.Z,iv a1.Sweep.Site.Rose,iv a1.Sweep.Site.Gates,iv a1.Sweep.Site.Step,iv a1.Sweep.Site.Width,iv a1.Sweep.Tilt,iv a1.Sweep.Time,sv aD a1.Sweep.Rays aH,iv a1.Field.Grid.X,iv a1.Field.Grid.Y,iv a1.Field.Grid.Size,iv a1.Field.Grid.Wide,iv a1.Field.Grid.High,sv aE a1.Field.Vals aI,.string a1.Text]] (iv aZ)) (show Ob.ok _ Ext _ _ from fun hk w2 hd=>Mk F a1 _ ((fun _=>c7) hk) _ w2 (A5 w2) (bM.mono Rp87.mono (FrzAt.le_mem ((hS.later hd).frz (i:=2) rfl hlow))) (bN.mono (FrzAt.le_mem ((hS.later hd).frz (i:=2) rfl hlow))))<|A9) fun a w hF hx=>?_
     replace hS:=hS.later hx
     refine wfn rfl ?_
     refine Aj hF rfl (fun hc=>?_) (fun hc=>?_)
     ·replace h:=Af h hc
      refine rnB [(2,.bool false)] hF fun a hF=>?_
      refine wpIn_ret (Ai<|A6<|A6<|Ai<|A6<|Ad [.tmp 2] [.bool false] hF rfl ⟨rfl,trivial⟩ ?_)
      obtain rfl:=Ao h
      exact ⟨rfl,hS.ext⟩
     ·replace h:=Ae h hc
      refine wpIn_skip (Ab<|A0<|?_)
      refine WI.region ?_
      obtain ⟨aX,bY,h⟩:=A1 h
      refine ro 3 3 [(0,sv ad1 p0 cap2),(3,iv aX)] hF (oA 3 bY<|A9) fun a hF=>?_
      refine wfn rfl ?_
      rw [hk2] at h
      exact ⟨nk2,Nat.lt_succ_self _,aX,hF.sub kr,St.pick [2] (by decide) hS,h⟩
   ·replace h:=Ae h hc
    refine wpIn_exit (Aa<|Aa<|Av<|A0 ?_)
    exact ⟨hF.sub kr,St.pick [0] (by decide) hS,h⟩
  rintro a w ⟨hF,hS,h⟩
  rw [E3] at h
  refine esr ?_
  refine qn 1 1 [(61,sv ad1 p0 cap2)] hF fun a hF=>?_
  obtain ⟨cJ,bZ,h⟩:=A1 h
  refine SK.wi (qR (fun aR=>[(62,aR)]) hF (U9 F _ _ bZ μ w (hS.frz (i:=0) rfl hlow) hA4) ?_)
  rintro aR w a ⟨ν186,c8,c9,cE,aJ,rfl,bS,hQ⟩ hF
  replace hext:=Frz.ext_trans hext (Frz.ext_mono aJ hS.ext.size)
  obtain ⟨hlow,hS⟩:=hS.frzMerge (i:=0) rfl hlow aJ hQ
  replace hA4:=hA4.mono Rp49.mono aJ.1
  obtain ⟨a9,c0,h⟩:=A1 h
  refine SK.wi (qR (fun aS=>[(63,aS)]) hF (Pb F _ _ c0 (Ay w) w (A5 w) (ArrQ.of_own (hS.arr (i:=0) rfl) bS Rp48.mono (FrzAt.le_mem (hS.frz (i:=1) rfl hlow)))) ?_)
  rintro aS w a ⟨b0,b8,rfl,hQ⟩ hF
  replace hS:=hS.madeL hQ
  refine qn 5 8 [(8,sv b0 a9.1 b8),(9,iv a9.2)] hF fun a hF=>?_
  refine wfn rfl ?_
  refine esr ?_
  refine qn 1 1 [(67,sv ad1 p0 cap2)] hF fun a hF=>?_
  obtain ⟨aA,c1,h⟩:=A1 h
  refine SK.wi (qR (fun aT=>[(68,aT)]) hF (Tx F _ _ c1 (Ay w) w (A5 w) (hA4.mono Rp49.mono (FrzAt.le_mem (hS.frz (i:=2) rfl hlow)))) ?_)
  rintro aT w a ⟨b1,b9,rfl,hQ⟩ hF
  replace hS:=hS.madeL hQ
  refine qn 5 7 [(10,sv b1 aA.1 b9),(11,iv aA.2)] hF fun a hF=>?_
  refine wfn rfl ?_
  refine esr ?_
  obtain ⟨aK,c2,h⟩:=A1 h
  obtain ⟨aL,c3,h⟩:=A1 h
  refine rX 12 12 [(2,.bool (bif (bif aK then (a9.2==aA.2) else false) then aL else false))] hF (oC (fun w2 hd=>Hc F a9.1 aA.1 _ c2 _ w2 (A5 w2) (Arr.toM ((hS.later hd).arrT_ (i:=1) rfl)) (Arr.toM ((hS.later hd).arrT_ (i:=0) rfl)))<|oX (.call [⟨79,true,(bif aK then (a9.2==aA.2) else false)⟩] 8 #[] (.bool aL)) (show Ob.ok _ Ext _ _ from fun hk w2 hd=>Po F  _ ((fun hk=>Cx c3 hk) hk) _ w2 (A5 w2))<|A9) fun a w hF hx=>?_
  replace hS:=hS.later hx
  refine wfn rfl ?_
  refine wpIn_ret (Ad [.tmp 2] [.bool (bif (bif aK then (a9.2==aA.2) else false) then aL else false)] hF rfl ⟨rfl,trivial⟩ ?_)
  obtain rfl:=Ao h
  exact ⟨rfl,hS.ext⟩
end Go.Proofs.YtifbomimeodibaaGreat
