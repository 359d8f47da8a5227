import Derived.Test.YtifbomimeodibaaGreatV4XD
import Derived.Test.YtifbomimeodibaaGreatProg
import Derived.Test.YtifbomimeodibaaGreatV4XW1
import Derived.Test.YtifbomimeodibaaGreatV4XW2
import Derived.Test.YtifbomimeodibaaGreatV4XW4
import Derived.Test.YtifbomimeodibaaGreatV4XW7
import Derived.Test.YtifbomimeodibaaGreatV4XW10
namespace Go.Proofs.YtifbomimeodibaaGreat
open Go Go.RowKit Go.Eng
set_option maxRecDepth 10000
set_option maxHeartbeats 4000000
set_option linter.unusedVariables false
set_option linter.unusedSimpArgs false
theorem Ue (F:Nat) (p0:ref12_Item) (res:(List Int)) (h:Jn F p0=some res) (μ:Frz) (w0:World) (hm:FrzAt μ w0) {ad1:Option Addr} {cap2:Nat} {css3:List (List Value)} {ad4:Option Addr} {cap5:Nat} (hA6:ArrQ μ 1 Rp87 ad1 cap2 css3 p0.Sweep.Rays) (hA7:ArrM μ 2 api_Span.cells ad4 cap5 p0.Field.Vals):Bj Tryz.prog 77 #[.agg #[iv p0.Kind,.string p0.Name,iv p0.Time,.string p0.Sweep.Site.Name,iv p0.Sweep.Site.X,iv p0.Sweep.Site.Y,iv p0.Sweep.Site.Z,iv p0.Sweep.Site.Rose,iv p0.Sweep.Site.Gates,iv p0.Sweep.Site.Step,iv p0.Sweep.Site.Width,iv p0.Sweep.Tilt,iv p0.Sweep.Time,sv ad1 p0.Sweep.Rays cap2,iv p0.Field.Grid.X,iv p0.Field.Grid.Y,iv p0.Field.Grid.Size,iv p0.Field.Grid.Wide,iv p0.Field.Grid.High,sv ad4 p0.Field.Vals cap5,.string p0.Text]] w0 (fun e w=>∃zad0 zcap0,e=(sv zad0 res zcap0)∧St w0 [arr 5 1 (fK .u8) zad0 res.length zcap0 res] w):=by
 obtain ⟨hlow,hS⟩:=hm.init
 have hext:=Frz.ext_refl w0.heap.size μ
 rw [Jn] at h
 refine Ag Tryz.func77 rfl 109 [(0,.agg #[iv p0.Kind,.string p0.Name,iv p0.Time,.string p0.Sweep.Site.Name,iv p0.Sweep.Site.X,iv p0.Sweep.Site.Y,iv p0.Sweep.Site.Z,iv p0.Sweep.Site.Rose,iv p0.Sweep.Site.Gates,iv p0.Sweep.Site.Step,iv p0.Sweep.Site.Width,iv p0.Sweep.Tilt,iv p0.Sweep.Time,sv ad1 p0.Sweep.Rays cap2,iv p0.Field.Grid.X,iv p0.Field.Grid.Y,iv p0.Field.Grid.Size,iv p0.Field.Grid.Wide,iv p0.Field.Grid.High,sv ad4 p0.Field.Vals cap5,.string p0.Text])] rfl rfl kr fun a w hw hF=>?_
 replace hS:=hS.cast hw
 clear hw
 refine esr ?_
 refine SK.wi (J6 (t:=49) (fun b8=>[(1,pb b8)]) (.agg #[iv p0.Kind,.string p0.Name,iv p0.Time,.string p0.Sweep.Site.Name,iv p0.Sweep.Site.X,iv p0.Sweep.Site.Y,iv p0.Sweep.Site.Z,iv p0.Sweep.Site.Rose,iv p0.Sweep.Site.Gates,iv p0.Sweep.Site.Step,iv p0.Sweep.Site.Width,iv p0.Sweep.Tilt,iv p0.Sweep.Time,sv ad1 p0.Sweep.Rays cap2,iv p0.Field.Grid.X,iv p0.Field.Grid.Y,iv p0.Field.Grid.Size,iv p0.Field.Grid.Wide,iv p0.Field.Grid.High,sv ad4 p0.Field.Vals cap5,.string p0.Text]) #[iv p0.Kind,.string p0.Name,iv p0.Time,.string p0.Sweep.Site.Name,iv p0.Sweep.Site.X,iv p0.Sweep.Site.Y,iv p0.Sweep.Site.Z,iv p0.Sweep.Site.Rose,iv p0.Sweep.Site.Gates,iv p0.Sweep.Site.Step,iv p0.Sweep.Site.Width,iv p0.Sweep.Tilt,iv p0.Sweep.Time,sv ad1 p0.Sweep.Rays cap2,iv p0.Field.Grid.X,iv p0.Field.Grid.Y,iv p0.Field.Grid.Size,iv p0.Field.Grid.Wide,iv p0.Field.Grid.High,sv ad4 p0.Field.Vals cap5,.string p0.Text] hF hS kr ⟨kr⟩ kr (fun _=>⟨kr⟩) fun b8 w a hF hS=>?_)
 refine rn 1 2 [(1,pb b8)] hF fun a hF=>?_
 refine wfn rfl ?_
 refine D9 (fun a w=>Fr 109 [] [(1,pb b8)] a∧St w0 [blk b8 49 #[iv p0.Kind,.string p0.Name,iv p0.Time,.string p0.Sweep.Site.Name,iv p0.Sweep.Site.X,iv p0.Sweep.Site.Y,iv p0.Sweep.Site.Z,iv p0.Sweep.Site.Rose,iv p0.Sweep.Site.Gates,iv p0.Sweep.Site.Step,iv p0.Sweep.Site.Width,iv p0.Sweep.Tilt,iv p0.Sweep.Time,sv ad1 p0.Sweep.Rays cap2,iv p0.Field.Grid.X,iv p0.Field.Grid.Y,iv p0.Field.Grid.Size,iv p0.Field.Grid.Wide,iv p0.Field.Grid.High,sv ad4 p0.Field.Vals cap5,.string p0.Text],fz w0 μ] w∧Ja F p0=some res) ?_ ?_
 ·skip
  refine qoB [(8,iv p0.Kind)] hF (oL 3 0 0 hS.i rfl rfl<|A9) fun a hF=>?_
  refine wpIn_block ?_
  refine qnB [(9,.bool (p0.Kind==1))] hF fun a hF=>?_
  refine Aj hF rfl (fun hc=>?_) (fun hc=>?_)
  ·replace h:=Af h hc
   refine esr ?_
   refine qo 3 3 [(13,p0.Sweep.Site.ag)] hF (oN 38 0 3 8 hS.i rfl<|A9) fun a hF=>?_
   refine SK.wi (qA 38 #[.string ByteArray.empty,iv 0,iv 0,iv 0,iv 0,iv 0,iv 0,iv 0] (fun a9=>[(3,pb a9)]) hF hS fun a9 w a hF hS=>?_)
   refine SK.wi (qS 38 0 0 (p0.Sweep.Site.ag) p0.Sweep.Site.ar hF hS rfl fun w a hF hS=>?_)
   refine wfn rfl ?_
   refine qnB [(4,.slice none 0 0)] hF fun a hF=>?_
   refine D9 (fun a w=>∃(a8:(List api_Echo)) (b2:Option Addr) (b6:Nat),Fr 109 [] [(1,pb b8),(3,pb a9),(4,sv b2 a8 b6)] a∧St w0 [arr 149 14 api_Echo.cells b2 a8.length b6 a8,blk a9 38 p0.Sweep.Site.ar,blk b8 49 #[iv p0.Kind,.string p0.Name,iv p0.Time,.string p0.Sweep.Site.Name,iv p0.Sweep.Site.X,iv p0.Sweep.Site.Y,iv p0.Sweep.Site.Z,iv p0.Sweep.Site.Rose,iv p0.Sweep.Site.Gates,iv p0.Sweep.Site.Step,iv p0.Sweep.Site.Width,iv p0.Sweep.Tilt,iv p0.Sweep.Time,sv ad1 p0.Sweep.Rays cap2,iv p0.Field.Grid.X,iv p0.Field.Grid.Y,iv p0.Field.Grid.Size,iv p0.Field.Grid.Wide,iv p0.Field.Grid.High,sv ad4 p0.Field.Vals cap5,.string p0.Text],fz w0 μ] w∧H6 F p0 a8=some res) ?_ ?_
   ·skip
    refine qnB [(5,iv 0)] hF fun a hF=>?_
    refine wpIn_block ?_
    replace hS:=hS.nilarr 149 14 api_Echo.cells
    refine Ci (fun n_ a w=>∃(aN:(List api_Echo)) (c1:Int) (cI:Option Addr) (cT:Nat),Fr 109 [] [(1,pb b8),(3,pb a9),(4,sv cI aN cT),(5,iv c1)] a∧St w0 [arr 149 14 api_Echo.cells cI aN.length cT aN,blk a9 38 p0.Sweep.Site.ar,blk b8 49 #[iv p0.Kind,.string p0.Name,iv p0.Time,.string p0.Sweep.Site.Name,iv p0.Sweep.Site.X,iv p0.Sweep.Site.Y,iv p0.Sweep.Site.Z,iv p0.Sweep.Site.Rose,iv p0.Sweep.Site.Gates,iv p0.Sweep.Site.Step,iv p0.Sweep.Site.Width,iv p0.Sweep.Tilt,iv p0.Sweep.Time,sv ad1 p0.Sweep.Rays cap2,iv p0.Field.Grid.X,iv p0.Field.Grid.Y,iv p0.Field.Grid.Size,iv p0.Field.Grid.Wide,iv p0.Field.Grid.High,sv ad4 p0.Field.Vals cap5,.string p0.Text],fz w0 μ] w∧Fy F p0 n_ aN c1=some res) F ⟨[],0,none,0,hF.sub kr,St.pick [0,1,2,3] (by decide) hS,h⟩ ?_
    rintro nk3 a w ⟨aN,c1,cI,cT,hF,hS,h⟩
    rcases nk3 with _|nk3
    ·cases (show (none:Option (List Int))=some res from h)
    obtain ⟨k3,hk3⟩:∃k,k=Fy F p0 nk3:=⟨_,rfl⟩
    replace h:L8 F p0 k3 aN c1=some res:=by rw [hk3];exact h
    rw [L8] at h
    refine Ar ?_
    refine qoB [(19,.bool (decide (c1<(ln p0.Sweep.Rays))))] hF (oL 39 2 13 hS.i rfl rfl<|A9) fun a hF=>?_
    refine Aj hF rfl (fun hc=>?_) (fun hc=>?_)
    ·replace h:=Af h hc
     refine wpIn_skip (A0 ?_)
     refine Ar ?_
     refine wpIn_block ?_
     refine WI.region ?_
     obtain ⟨dW,f3,h⟩:=A1 h
     obtain ⟨gM,dV,eY⟩:=Bd hA6.2 f3
     obtain ⟨eS,eT,rfl,eW⟩:=eY
     refine qo 7 7 [(22,sv cI aN cT),(28,sv eS dW eT)] hF (oL 39 2 13 hS.i rfl rfl<|oI 39 (hA6.at (hS.frz (i:=3) rfl hlow)) dV<|oE 87 0 (Bz 1) (fun _ hd=>(hA6.at ((hS.at_ hd).frz (i:=3) rfl hlow))) dV rfl<|A9) fun a hF=>?_
     obtain ⟨dF,eZ,h⟩:=A1 h
     refine SK.wi (Lq (t:=87) (ty:=87) (bytes:=112) (l:=aN) (l':=dW) (fun d2 d5=>[(1,pb b8),(3,pb a9),(4,sv cI aN cT),(5,iv c1),(29,sv d2 dF d5)]) 0 hF hS rfl kr ⟨kr⟩ kr (eW _ (hS.frz (i:=3) rfl hlow)) (fun _ _=>rfl) eZ (fun _ _=>⟨kr⟩) fun d2 d5 w a hF hS=>?_)
     refine rn 1 9 [(1,pb b8),(3,pb a9),(4,sv d2 dF d5),(5,iv c1)] hF fun a hF=>?_
     refine WI.fin rfl (Ab<|A0<|?_)
     refine WI.region ?_
     obtain ⟨eO,f4,h⟩:=A1 h
     refine ro 3 3 [(1,pb b8),(3,pb a9),(4,sv d2 dF d5),(5,iv eO)] hF (oA 3 f4<|A9) fun a hF=>?_
     refine wfn rfl ?_
     rw [hk3] at h
     exact ⟨nk3,Nat.lt_succ_self _,dF,eO,d2,d5,hF.sub kr,St.pick [0,1,2,3] (by decide) hS,h⟩
    ·replace h:=Ae h hc
     refine wpIn_exit (Aa<|Aa<|Av<|A0 ?_)
     exact ⟨aN,cI,cT,hF.sub kr,St.pick [0,1,2,3] (by decide) hS,h⟩
   rintro a w ⟨a8,b2,b6,hF,hS,h⟩
   rw [H6] at h
   refine Ar ?_
   obtain ⟨c4,f9,h⟩:=A1 h
   obtain ⟨c5,fA,h⟩:=A1 h
   obtain ⟨c6,fB,h⟩:=A1 h
   obtain ⟨c7,fC,h⟩:=A1 h
   obtain ⟨aU,fD,h⟩:=A1 h
   obtain ⟨aV,fE,h⟩:=A1 h
   obtain ⟨aW,fF,h⟩:=A1 h
   obtain ⟨aX,fG,h⟩:=A1 h
   obtain ⟨aI,fH,h⟩:=A1 h
   obtain ⟨aJ,fI,h⟩:=A1 h
   obtain ⟨aK,fJ,h⟩:=A1 h
   refine Bt 34 [0,3,6,9,12,15,18,21,24,28,32] _ (D:=fun w=>St w0 [arr 149 14 api_Echo.cells b2 a8.length b6 a8,blk a9 38 p0.Sweep.Site.ar,blk b8 49 #[iv p0.Kind,.string p0.Name,iv p0.Time,.string p0.Sweep.Site.Name,iv p0.Sweep.Site.X,iv p0.Sweep.Site.Y,iv p0.Sweep.Site.Z,iv p0.Sweep.Site.Rose,iv p0.Sweep.Site.Gates,iv p0.Sweep.Site.Step,iv p0.Sweep.Site.Width,iv p0.Sweep.Tilt,iv p0.Sweep.Time,sv ad1 p0.Sweep.Rays cap2,iv p0.Field.Grid.X,iv p0.Field.Grid.Y,iv p0.Field.Grid.Size,iv p0.Field.Grid.Wide,iv p0.Field.Grid.High,sv ad4 p0.Field.Vals cap5,.string p0.Text]] w∧FrzAt μ w) kr kr hF.size (fun w hx=>?_) (fun _ _ h=>h)
   replace hS:=hS.later hx
   refine ⟨⟨St.pick [0,1,2] (by decide) hS,hS.frz (i:=3) rfl hlow⟩,?_⟩
   have gO:=Frz.le_refl μ
   refine WT.s [1,2,4,5,7,8,10,11,13,14,16,17,19,20,22,23,25,26,27,29,30,31,33] [0] kr kr ?_
   refine rC 23 [(32,.string p0.Sweep.Site.Name),(35,iv p0.Sweep.Site.X),(38,iv p0.Sweep.Site.Y),(41,iv p0.Sweep.Site.Z),(44,iv p0.Sweep.Site.Rose),(47,iv p0.Sweep.Site.Gates),(50,iv p0.Sweep.Site.Step),(53,iv p0.Sweep.Site.Width),(57,iv p0.Sweep.Tilt),(61,iv p0.Sweep.Time),(63,sv b2 a8 b6)] hF (oL 9 1 0 (fun _ hd=>hd.1) rfl rfl<|oL 3 1 1 (fun _ hd=>hd.1) rfl rfl<|oL 3 1 2 (fun _ hd=>hd.1) rfl rfl<|oL 3 1 3 (fun _ hd=>hd.1) rfl rfl<|oL 3 1 4 (fun _ hd=>hd.1) rfl rfl<|oL 3 1 5 (fun _ hd=>hd.1) rfl rfl<|oL 3 1 6 (fun _ hd=>hd.1) rfl rfl<|oL 3 1 7 (fun _ hd=>hd.1) rfl rfl<|oL 3 2 11 (fun _ hd=>hd.1) rfl rfl<|oL 3 2 12 (fun _ hd=>hd.1) rfl rfl<|A9) fun a hF=>?_
   refine WRun.fin ?_
   refine all_cons ?_ (At)
   refine qR (fun e1=>[(30,e1)]) hF (Au F _ _ f9 (Ay w) w (A5 w)) ?_
   rintro e1 w a ⟨cE,cP,rfl,hQ⟩ hF
   replace hS:=hS.madeL hQ
   refine ⟨⟨St.pick [1,2,3] (by decide) hS,(hS.frz (i:=4) rfl hlow)⟩,?_⟩
   refine WT.s [] [3] kr kr ?_
   refine WRun.fin ?_
   refine all_cons ?_ (At)
   refine qR (fun e2=>[(30,sv cE c4 cP),(33,e2)]) hF (P4 F _ _ fA (Ay w) w (A5 w)) ?_
   rintro e2 w a ⟨cF,cQ,rfl,hQ⟩ hF
   replace hS:=hS.madeL hQ
   refine ⟨⟨St.pick [2,3,4] (by decide) hS,(hS.frz (i:=5) rfl hlow)⟩,?_⟩
   refine WT.s [] [6] kr kr ?_
   refine WRun.fin ?_
   refine all_cons ?_ (At)
   refine qR (fun e3=>[(33,sv cF c5 cQ),(36,e3)]) hF (Ge F _ _ fB (Ay w) w (A5 w)) ?_
   rintro e3 w a ⟨cG,cR,rfl,hQ⟩ hF
   replace hS:=hS.madeL hQ
   refine ⟨⟨St.pick [3,4,5] (by decide) hS,(hS.frz (i:=6) rfl hlow)⟩,?_⟩
   refine WT.s [] [9] kr kr ?_
   refine WRun.fin ?_
   refine all_cons ?_ (At)
   refine qR (fun e4=>[(36,sv cG c6 cR),(39,e4)]) hF (Ge F _ _ fC (Ay w) w (A5 w)) ?_
   rintro e4 w a ⟨cH,cS,rfl,hQ⟩ hF
   replace hS:=hS.madeL hQ
   refine ⟨⟨St.pick [4,5,6] (by decide) hS,(hS.frz (i:=7) rfl hlow)⟩,?_⟩
   refine WT.s [] [12] kr kr ?_
   refine WRun.fin ?_
   refine all_cons ?_ (At)
   refine qR (fun e5=>[(39,sv cH c7 cS),(42,e5)]) hF (Au F _ _ fD (Ay w) w (A5 w)) ?_
   rintro e5 w a ⟨bD,bN,rfl,hQ⟩ hF
   replace hS:=hS.madeL hQ
   refine ⟨⟨St.pick [5,6,7] (by decide) hS,(hS.frz (i:=8) rfl hlow)⟩,?_⟩
   refine WT.s [] [15] kr kr ?_
   refine WRun.fin ?_
   refine all_cons ?_ (At)
   refine qR (fun e6=>[(42,sv bD aU bN),(45,e6)]) hF (Au F _ _ fE (Ay w) w (A5 w)) ?_
   rintro e6 w a ⟨bE,bO,rfl,hQ⟩ hF
   replace hS:=hS.madeL hQ
   refine ⟨⟨St.pick [6,7,8] (by decide) hS,(hS.frz (i:=9) rfl hlow)⟩,?_⟩
   refine WT.s [] [18] kr kr ?_
   refine WRun.fin ?_
   refine all_cons ?_ (At)
   refine qR (fun e7=>[(45,sv bE aV bO),(48,e7)]) hF (Au F _ _ fF (Ay w) w (A5 w)) ?_
   rintro e7 w a ⟨bF,bP,rfl,hQ⟩ hF
   replace hS:=hS.madeL hQ
   refine ⟨⟨St.pick [7,8,9] (by decide) hS,(hS.frz (i:=10) rfl hlow)⟩,?_⟩
   refine WT.s [] [21] kr kr ?_
   refine WRun.fin ?_
   refine all_cons ?_ (At)
   refine qR (fun e8=>[(48,sv bF aW bP),(51,e8)]) hF (Au F _ _ fG (Ay w) w (A5 w)) ?_
   rintro e8 w a ⟨bG,bQ,rfl,hQ⟩ hF
   replace hS:=hS.madeL hQ
   refine ⟨⟨St.pick [8,9,10] (by decide) hS,(hS.frz (i:=11) rfl hlow)⟩,?_⟩
   refine WT.s [] [24] kr kr ?_
   refine WRun.fin ?_
   refine all_cons ?_ (At)
   refine qR (fun e9=>[(51,sv bG aX bQ),(54,e9)]) hF (Au F _ _ fH (Ay w) w (A5 w)) ?_
   rintro e9 w a ⟨b3,b7,rfl,hQ⟩ hF
   replace hS:=hS.madeL hQ
   refine ⟨⟨St.pick [9,10,11] (by decide) hS,(hS.frz (i:=12) rfl hlow)⟩,?_⟩
   refine WT.s [] [28] kr kr ?_
   refine WRun.fin ?_
   refine all_cons ?_ (At)
   refine qR (fun eA=>[(54,sv b3 aI b7),(58,eA)]) hF (Au F _ _ fI (Ay w) w (A5 w)) ?_
   rintro eA w a ⟨b4,b9,rfl,hQ⟩ hF
   replace hS:=hS.madeL hQ
   refine ⟨⟨St.pick [10,11,12] (by decide) hS,(hS.frz (i:=13) rfl hlow)⟩,?_⟩
   refine WT.s [] [32] kr kr ?_
   refine WRun.fin ?_
   refine all_cons ?_ (At)
   refine qR (fun eB=>[(58,sv b4 aJ b9),(62,eB)]) hF (Au F _ _ fJ (Ay w) w (A5 w)) ?_
   rintro eB w a ⟨b5,bA,rfl,hQ⟩ hF
   replace hS:=hS.madeL hQ
   refine ⟨⟨St.pick [11,12,13] (by decide) hS,(hS.frz (i:=14) rfl hlow)⟩,?_⟩
   refine WT.z [] kr ?_
   refine WRun.fin ?_
   obtain ⟨aO,fL,h⟩:=A1 h
   refine SK.wi (qR (fun eC=>[(62,sv b5 aK bA),(64,eC)]) hF (Su F _ _ fL (Ay w) w (A5 w) (Arr.toM (hS.arr (i:=11) rfl))) ?_)
   rintro eC w a ⟨bH,bR,rfl,hQ⟩ hF
   replace hS:=hS.madeL hQ
   obtain ⟨ν601,dK,hlow,hS,g1⟩:=hS.freeze (i:=15) (j:=11) rfl rfl (by decide) hlow
   replace hA6:=hA6.mono Rp87.mono dK.1
   replace hA7:=hA7.mono dK.1
   replace hext:=Frz.ext_trans hext dK
   have a0:=ArrM.of_arr g1
   obtain ⟨ν605,dD,hlow,hS,g2⟩:=hS.freeze (i:=14) (j:=10) rfl rfl (by decide) hlow
   replace hA6:=hA6.mono Rp87.mono dD.1
   replace hA7:=hA7.mono dD.1
   replace a0:=a0.mono dD.1
   replace hext:=Frz.ext_trans hext dD
   have a1:=ArrM.of_arr g2
   obtain ⟨ν609,dA,hlow,hS,g3⟩:=hS.freeze (i:=13) (j:=9) rfl rfl (by decide) hlow
   replace hA6:=hA6.mono Rp87.mono dA.1
   replace hA7:=hA7.mono dA.1
   replace a0:=a0.mono dA.1
   replace a1:=a1.mono dA.1
   replace hext:=Frz.ext_trans hext dA
   have a2:=ArrM.of_arr g3
   obtain ⟨ν613,cY,hlow,hS,g4⟩:=hS.freeze (i:=12) (j:=8) rfl rfl (by decide) hlow
   replace hA6:=hA6.mono Rp87.mono cY.1
   replace hA7:=hA7.mono cY.1
   replace a0:=a0.mono cY.1
   replace a1:=a1.mono cY.1
   replace a2:=a2.mono cY.1
   replace hext:=Frz.ext_trans hext cY
   replace hS:St w0 [arr 5 1 (fK .u8) bH aO.length bR aO,arr 5 1 (fK .u8) b5 aK.length bA aK,arr 5 1 (fK .u8) b4 aJ.length b9 aJ,arr 5 1 (fK .u8) b3 aI.length b7 aI,arr 5 1 (fK .u8) bG aX.length bQ aX,arr 5 1 (fK .u8) bF aW.length bP aW,arr 5 1 (fK .u8) bE aV.length bO aV,arr 5 1 (fK .u8) bD aU.length bN aU,arr 149 14 api_Echo.cells b2 a8.length b6 a8,blk a9 38 p0.Sweep.Site.ar,blk b8 49 #[iv p0.Kind,.string p0.Name,iv p0.Time,.string p0.Sweep.Site.Name,iv p0.Sweep.Site.X,iv p0.Sweep.Site.Y,iv p0.Sweep.Site.Z,iv p0.Sweep.Site.Rose,iv p0.Sweep.Site.Gates,iv p0.Sweep.Site.Step,iv p0.Sweep.Site.Width,iv p0.Sweep.Tilt,iv p0.Sweep.Time,sv ad1 p0.Sweep.Rays cap2,iv p0.Field.Grid.X,iv p0.Field.Grid.Y,iv p0.Field.Grid.Size,iv p0.Field.Grid.Wide,iv p0.Field.Grid.High,sv ad4 p0.Field.Vals cap5,.string p0.Text],fz w0 ν613] w:=hS
   have a3:=ArrM.of_arr g4
   obtain ⟨ν617,bZ,hlow,hS,g5⟩:=hS.freeze (i:=11) (j:=7) rfl rfl (by decide) hlow
   replace hA6:=hA6.mono Rp87.mono bZ.1
   replace hA7:=hA7.mono bZ.1
   replace a0:=a0.mono bZ.1
   replace a1:=a1.mono bZ.1
   replace a2:=a2.mono bZ.1
   replace a3:=a3.mono bZ.1
   replace hext:=Frz.ext_trans hext bZ
   have a5:=ArrM.of_arr g5
   obtain ⟨ν621,bB,hlow,hS,g6⟩:=hS.freeze (i:=10) (j:=6) rfl rfl (by decide) hlow
   replace hA6:=hA6.mono Rp87.mono bB.1
   replace hA7:=hA7.mono bB.1
   replace a0:=a0.mono bB.1
   replace a1:=a1.mono bB.1
   replace a2:=a2.mono bB.1
   replace a3:=a3.mono bB.1
   replace a5:=a5.mono bB.1
   replace hext:=Frz.ext_trans hext bB
   have aA:=ArrM.of_arr g6
   obtain ⟨ν625,aS,hlow,hS,g7⟩:=hS.freeze (i:=9) (j:=5) rfl rfl (by decide) hlow
   replace hA6:=hA6.mono Rp87.mono aS.1
   replace hA7:=hA7.mono aS.1
   replace a0:=a0.mono aS.1
   replace a1:=a1.mono aS.1
   replace a2:=a2.mono aS.1
   replace a3:=a3.mono aS.1
   replace a5:=a5.mono aS.1
   replace aA:=aA.mono aS.1
   replace hext:=Frz.ext_trans hext aS
   have aE:=ArrM.of_arr g7
   obtain ⟨ν629,aL,hlow,hS,g8⟩:=hS.freeze (i:=8) (j:=4) rfl rfl (by decide) hlow
   replace hA6:=hA6.mono Rp87.mono aL.1
   replace hA7:=hA7.mono aL.1
   replace a0:=a0.mono aL.1
   replace a1:=a1.mono aL.1
   replace a2:=a2.mono aL.1
   replace a3:=a3.mono aL.1
   replace a5:=a5.mono aL.1
   replace aA:=aA.mono aL.1
   replace aE:=aE.mono aL.1
   replace hext:=Frz.ext_trans hext aL
   replace hS:St w0 [arr 5 1 (fK .u8) bH aO.length bR aO,arr 5 1 (fK .u8) b5 aK.length bA aK,arr 5 1 (fK .u8) b4 aJ.length b9 aJ,arr 5 1 (fK .u8) b3 aI.length b7 aI,arr 149 14 api_Echo.cells b2 a8.length b6 a8,blk a9 38 p0.Sweep.Site.ar,blk b8 49 #[iv p0.Kind,.string p0.Name,iv p0.Time,.string p0.Sweep.Site.Name,iv p0.Sweep.Site.X,iv p0.Sweep.Site.Y,iv p0.Sweep.Site.Z,iv p0.Sweep.Site.Rose,iv p0.Sweep.Site.Gates,iv p0.Sweep.Site.Step,iv p0.Sweep.Site.Width,iv p0.Sweep.Tilt,iv p0.Sweep.Time,sv ad1 p0.Sweep.Rays cap2,iv p0.Field.Grid.X,iv p0.Field.Grid.Y,iv p0.Field.Grid.Size,iv p0.Field.Grid.Wide,iv p0.Field.Grid.High,sv ad4 p0.Field.Vals cap5,.string p0.Text],fz w0 ν629] w:=hS
   have aQ:=ArrM.of_arr g8
   obtain ⟨ν633,aG,hlow,hS,g9⟩:=hS.freeze (i:=7) (j:=3) rfl rfl (by decide) hlow
   replace hA6:=hA6.mono Rp87.mono aG.1
   replace hA7:=hA7.mono aG.1
   replace a0:=a0.mono aG.1
   replace a1:=a1.mono aG.1
   replace a2:=a2.mono aG.1
   replace a3:=a3.mono aG.1
   replace a5:=a5.mono aG.1
   replace aA:=aA.mono aG.1
   replace aE:=aE.mono aG.1
   replace aQ:=aQ.mono aG.1
   replace hext:=Frz.ext_trans hext aG
   have bX:=ArrM.of_arr g9
   obtain ⟨ν637,aD,hlow,hS,gA⟩:=hS.freeze (i:=6) (j:=2) rfl rfl (by decide) hlow
   replace hA6:=hA6.mono Rp87.mono aD.1
   replace hA7:=hA7.mono aD.1
   replace a0:=a0.mono aD.1
   replace a1:=a1.mono aD.1
   replace a2:=a2.mono aD.1
   replace a3:=a3.mono aD.1
   replace a5:=a5.mono aD.1
   replace aA:=aA.mono aD.1
   replace aE:=aE.mono aD.1
   replace aQ:=aQ.mono aD.1
   replace bX:=bX.mono aD.1
   replace hext:=Frz.ext_trans hext aD
   have d7:=ArrM.of_arr gA
   obtain ⟨ν641,aC,hlow,hS,gB⟩:=hS.freeze (i:=5) (j:=1) rfl rfl (by decide) hlow
   replace hA6:=hA6.mono Rp87.mono aC.1
   replace hA7:=hA7.mono aC.1
   replace a0:=a0.mono aC.1
   replace a1:=a1.mono aC.1
   replace a2:=a2.mono aC.1
   replace a3:=a3.mono aC.1
   replace a5:=a5.mono aC.1
   replace aA:=aA.mono aC.1
   replace aE:=aE.mono aC.1
   replace aQ:=aQ.mono aC.1
   replace bX:=bX.mono aC.1
   replace d7:=d7.mono aC.1
   replace hext:=Frz.ext_trans hext aC
   have dH:=ArrM.of_arr gB
   obtain ⟨ν645,a7,hlow,hS,gC⟩:=hS.freeze (i:=4) (j:=0) rfl rfl (by decide) hlow
   replace hA6:=hA6.mono Rp87.mono a7.1
   replace hA7:=hA7.mono a7.1
   replace a0:=a0.mono a7.1
   replace a1:=a1.mono a7.1
   replace a2:=a2.mono a7.1
   replace a3:=a3.mono a7.1
   replace a5:=a5.mono a7.1
   replace aA:=aA.mono a7.1
   replace aE:=aE.mono a7.1
   replace aQ:=aQ.mono a7.1
   replace bX:=bX.mono a7.1
   replace d7:=d7.mono a7.1
   replace dH:=dH.mono a7.1
   replace hext:=Frz.ext_trans hext a7
   replace hS:St w0 [arr 149 14 api_Echo.cells b2 a8.length b6 a8,blk a9 38 p0.Sweep.Site.ar,blk b8 49 #[iv p0.Kind,.string p0.Name,iv p0.Time,.string p0.Sweep.Site.Name,iv p0.Sweep.Site.X,iv p0.Sweep.Site.Y,iv p0.Sweep.Site.Z,iv p0.Sweep.Site.Rose,iv p0.Sweep.Site.Gates,iv p0.Sweep.Site.Step,iv p0.Sweep.Site.Width,iv p0.Sweep.Tilt,iv p0.Sweep.Time,sv ad1 p0.Sweep.Rays cap2,iv p0.Field.Grid.X,iv p0.Field.Grid.Y,iv p0.Field.Grid.Size,iv p0.Field.Grid.Wide,iv p0.Field.Grid.High,sv ad4 p0.Field.Vals cap5,.string p0.Text],fz w0 ν645] w:=hS
   have eV:=ArrM.of_arr gC
   have f1:All2 (Rp22 ν645) ([[sv cE c4 cP],[sv cF c5 cQ],[sv cG c6 cR],[sv cH c7 cS],[sv bD aU bN],[sv bE aV bO],[sv bF aW bP],[sv bG aX bQ],[sv b3 aI b7],[sv b4 aJ b9],[sv b5 aK bA],[sv bH aO bR]]:List (List Value)) [c4,c5,c6,c7,aU,aV,aW,aX,aI,aJ,aK,aO]:=(All2.cons ⟨cE,cP,rfl,a0⟩ (All2.cons ⟨cF,cQ,rfl,a1⟩ (All2.cons ⟨cG,cR,rfl,a2⟩ (All2.cons ⟨cH,cS,rfl,a3⟩ (All2.cons ⟨bD,bN,rfl,a5⟩ (All2.cons ⟨bE,bO,rfl,aA⟩ (All2.cons ⟨bF,bP,rfl,aE⟩ (All2.cons ⟨bG,bQ,rfl,aQ⟩ (All2.cons ⟨b3,b7,rfl,bX⟩ (All2.cons ⟨b4,b9,rfl,d7⟩ (All2.cons ⟨b5,bA,rfl,dH⟩ (All2.cons ⟨bH,bR,rfl,eV⟩ All2.nil))))))))))))
   refine SK.wi (Qp (e:=22) (sz:=1) (f:=fN 1) (t:=105) (len:=12) (fun dQ=>[(65,sb dQ 12)]) #[(0,sv cE c4 cP),(1,sv cF c5 cQ),(2,sv cG c6 cR),(3,sv cH c7 cS),(4,sv bD aU bN),(5,sv bE aV bO),(6,sv bF aW bP),(7,sv bG aX bQ),(8,sv b3 aI b7),(9,sv b4 aJ b9),(10,sv b5 aK bA),(11,sv bH aO bR)] #[sv cE c4 cP,sv cF c5 cQ,sv cG c6 cR,sv cH c7 cS,sv bD aU bN,sv bE aV bO,sv bF aW bP,sv bG aX bQ,sv b3 aI b7,sv b4 aJ b9,sv b5 aK bA,sv bH aO bR] ([[sv cE c4 cP],[sv cF c5 cQ],[sv cG c6 cR],[sv cH c7 cS],[sv bD aU bN],[sv bE aV bO],[sv bF aW bP],[sv bG aX bQ],[sv b3 aI b7],[sv b4 aJ b9],[sv b5 aK bA],[sv bH aO bR]]:List (List Value)) ([c4,c5,c6,c7,aU,aV,aW,aX,aI,aJ,aK,aO]) hF hS kr ⟨kr⟩ kr (Bz 1) rfl rfl rfl kr (fun _=>⟨kr⟩) fun dQ w a hF hS=>?_)
   obtain ⟨eQ,fM,h⟩:=A1 h
   refine SK.wi (rR (fun eD=>[(66,eD)]) hF (Gz F _ _ fM (Ay w) w (A5 w) (ArrQ.of_own (hS.arr (i:=0) rfl) f1 Rp22.mono (FrzAt.le_mem (hS.frz (i:=4) rfl hlow)))) ?_)
   rintro eD w a ⟨dN,dT,rfl,hQ⟩ hF
   replace hS:=hS.madeL hQ
   refine rn 1 38 [(2,sv dN eQ dT)] hF fun a hF=>?_
   refine wfn rfl ?_
   refine wpIn_ret (Ai<|A6<|Ad [.tmp 2] [sv dN eQ dT] hF rfl ⟨rfl,trivial⟩ ?_)
   obtain rfl:=Ao h
   exact ⟨_,rfl,_,_,rfl,St.pick [0] (by decide) hS⟩
  ·replace h:=Ae h hc
   refine qnB [(67,.bool (p0.Kind==2))] hF fun a hF=>?_
   refine Aj hF rfl (fun hc=>?_) (fun hc=>?_)
   ·replace h:=Af h hc
    refine esr ?_
    refine qo 3 3 [(71,p0.Field.Grid.ag)] hF (oN 43 0 14 5 hS.i rfl<|A9) fun a hF=>?_
    refine SK.wi (qA 43 #[iv 0,iv 0,iv 0,iv 0,iv 0] (fun d3=>[(6,pb d3)]) hF hS fun d3 w a hF hS=>?_)
    refine SK.wi (qS 43 0 0 (p0.Field.Grid.ag) p0.Field.Grid.ar hF hS rfl fun w a hF hS=>?_)
    refine wfn rfl ?_
    refine Ar ?_
    obtain ⟨c8,fO,h⟩:=A1 h
    obtain ⟨c9,fP,h⟩:=A1 h
    obtain ⟨cA,fQ,h⟩:=A1 h
    obtain ⟨cB,fR,h⟩:=A1 h
    obtain ⟨aY,fS,h⟩:=A1 h
    obtain ⟨aZ,fT,h⟩:=A1 h
    obtain ⟨b0,fU,h⟩:=A1 h
    obtain ⟨b1,fV,h⟩:=A1 h
    refine Bt 25 [0,3,6,9,12,15,18,21] _ (D:=fun w=>St w0 [blk d3 43 p0.Field.Grid.ar,blk b8 49 #[iv p0.Kind,.string p0.Name,iv p0.Time,.string p0.Sweep.Site.Name,iv p0.Sweep.Site.X,iv p0.Sweep.Site.Y,iv p0.Sweep.Site.Z,iv p0.Sweep.Site.Rose,iv p0.Sweep.Site.Gates,iv p0.Sweep.Site.Step,iv p0.Sweep.Site.Width,iv p0.Sweep.Tilt,iv p0.Sweep.Time,sv ad1 p0.Sweep.Rays cap2,iv p0.Field.Grid.X,iv p0.Field.Grid.Y,iv p0.Field.Grid.Size,iv p0.Field.Grid.Wide,iv p0.Field.Grid.High,sv ad4 p0.Field.Vals cap5,.string p0.Text]] w∧FrzAt μ w) kr kr hF.size (fun w hx=>?_) (fun _ _ h=>h)
    replace hS:=hS.later hx
    refine ⟨⟨St.pick [0,1] (by decide) hS,hS.frz (i:=2) rfl hlow⟩,?_⟩
    have gP:=Frz.le_refl μ
    refine WT.s [1,2,4,5,7,8,10,11,13,14,16,17,19,20,22,23,24] [0] kr kr ?_
    refine rC 17 [(74,.string p0.Name),(77,iv p0.Time),(80,iv p0.Field.Grid.X),(83,iv p0.Field.Grid.Y),(86,iv p0.Field.Grid.Size),(89,iv p0.Field.Grid.Wide),(92,iv p0.Field.Grid.High),(96,sv ad4 p0.Field.Vals cap5)] hF (oL 9 1 1 (fun _ hd=>hd.1) rfl rfl<|oL 3 1 2 (fun _ hd=>hd.1) rfl rfl<|oL 3 0 0 (fun _ hd=>hd.1) rfl rfl<|oL 3 0 1 (fun _ hd=>hd.1) rfl rfl<|oL 3 0 2 (fun _ hd=>hd.1) rfl rfl<|oL 3 0 3 (fun _ hd=>hd.1) rfl rfl<|oL 3 0 4 (fun _ hd=>hd.1) rfl rfl<|oL 44 1 19 (fun _ hd=>hd.1) rfl rfl<|A9) fun a hF=>?_
    refine WRun.fin ?_
    refine all_cons ?_ (At)
    refine qR (fun eE=>[(72,eE)]) hF (Au F _ _ fO (Ay w) w (A5 w)) ?_
    rintro eE w a ⟨cJ,cU,rfl,hQ⟩ hF
    replace hS:=hS.madeL hQ
    refine ⟨⟨St.pick [1,2] (by decide) hS,(hS.frz (i:=3) rfl hlow)⟩,?_⟩
    refine WT.s [] [3] kr kr ?_
    refine WRun.fin ?_
    refine all_cons ?_ (At)
    refine qR (fun eF=>[(72,sv cJ c8 cU),(75,eF)]) hF (P4 F _ _ fP (Ay w) w (A5 w)) ?_
    rintro eF w a ⟨cK,cV,rfl,hQ⟩ hF
    replace hS:=hS.madeL hQ
    refine ⟨⟨St.pick [2,3] (by decide) hS,(hS.frz (i:=4) rfl hlow)⟩,?_⟩
    refine WT.s [] [6] kr kr ?_
    refine WRun.fin ?_
    refine all_cons ?_ (At)
    refine qR (fun eG=>[(75,sv cK c9 cV),(78,eG)]) hF (Au F _ _ fQ (Ay w) w (A5 w)) ?_
    rintro eG w a ⟨cL,cW,rfl,hQ⟩ hF
    replace hS:=hS.madeL hQ
    refine ⟨⟨St.pick [3,4] (by decide) hS,(hS.frz (i:=5) rfl hlow)⟩,?_⟩
    refine WT.s [] [9] kr kr ?_
    refine WRun.fin ?_
    refine all_cons ?_ (At)
    refine qR (fun eH=>[(78,sv cL cA cW),(81,eH)]) hF (Ge F _ _ fR (Ay w) w (A5 w)) ?_
    rintro eH w a ⟨cM,cX,rfl,hQ⟩ hF
    replace hS:=hS.madeL hQ
    refine ⟨⟨St.pick [4,5] (by decide) hS,(hS.frz (i:=6) rfl hlow)⟩,?_⟩
    refine WT.s [] [12] kr kr ?_
    refine WRun.fin ?_
    refine all_cons ?_ (At)
    refine qR (fun eI=>[(81,sv cM cB cX),(84,eI)]) hF (Ge F _ _ fS (Ay w) w (A5 w)) ?_
    rintro eI w a ⟨bI,bS,rfl,hQ⟩ hF
    replace hS:=hS.madeL hQ
    refine ⟨⟨St.pick [5,6] (by decide) hS,(hS.frz (i:=7) rfl hlow)⟩,?_⟩
    refine WT.s [] [15] kr kr ?_
    refine WRun.fin ?_
    refine all_cons ?_ (At)
    refine qR (fun eJ=>[(84,sv bI aY bS),(87,eJ)]) hF (Au F _ _ fT (Ay w) w (A5 w)) ?_
    rintro eJ w a ⟨bJ,bT,rfl,hQ⟩ hF
    replace hS:=hS.madeL hQ
    refine ⟨⟨St.pick [6,7] (by decide) hS,(hS.frz (i:=8) rfl hlow)⟩,?_⟩
    refine WT.s [] [18] kr kr ?_
    refine WRun.fin ?_
    refine all_cons ?_ (At)
    refine qR (fun eK=>[(87,sv bJ aZ bT),(90,eK)]) hF (Au F _ _ fU (Ay w) w (A5 w)) ?_
    rintro eK w a ⟨bK,bU,rfl,hQ⟩ hF
    replace hS:=hS.madeL hQ
    refine ⟨⟨St.pick [7,8] (by decide) hS,(hS.frz (i:=9) rfl hlow)⟩,?_⟩
    refine WT.s [] [21] kr kr ?_
    refine WRun.fin ?_
    refine all_cons ?_ (At)
    refine qR (fun eL=>[(90,sv bK b0 bU),(93,eL)]) hF (Au F _ _ fV (Ay w) w (A5 w)) ?_
    rintro eL w a ⟨bL,bV,rfl,hQ⟩ hF
    replace hS:=hS.madeL hQ
    refine ⟨⟨St.pick [8,9] (by decide) hS,(hS.frz (i:=10) rfl hlow)⟩,?_⟩
    refine WT.z [] kr ?_
    refine WRun.fin ?_
    obtain ⟨aP,fW,h⟩:=A1 h
    refine SK.wi (qR (fun eM=>[(93,sv bL b1 bV),(97,eM)]) hF (Ty F _ _ fW (Ay w) w (A5 w) (hA7.mono (FrzAt.le_mem (hS.frz (i:=10) rfl hlow)))) ?_)
    rintro eM w a ⟨bM,bW,rfl,hQ⟩ hF
    replace hS:=hS.madeL hQ
    obtain ⟨ν784,dL,hlow,hS,gD⟩:=hS.freeze (i:=11) (j:=8) rfl rfl (by decide) hlow
    replace hA6:=hA6.mono Rp87.mono dL.1
    replace hA7:=hA7.mono dL.1
    replace hext:=Frz.ext_trans hext dL
    have a4:=ArrM.of_arr gD
    obtain ⟨ν788,dE,hlow,hS,gE⟩:=hS.freeze (i:=10) (j:=7) rfl rfl (by decide) hlow
    replace hA6:=hA6.mono Rp87.mono dE.1
    replace hA7:=hA7.mono dE.1
    replace a4:=a4.mono dE.1
    replace hext:=Frz.ext_trans hext dE
    have a6:=ArrM.of_arr gE
    obtain ⟨ν792,dB,hlow,hS,gF⟩:=hS.freeze (i:=9) (j:=6) rfl rfl (by decide) hlow
    replace hA6:=hA6.mono Rp87.mono dB.1
    replace hA7:=hA7.mono dB.1
    replace a4:=a4.mono dB.1
    replace a6:=a6.mono dB.1
    replace hext:=Frz.ext_trans hext dB
    have aB:=ArrM.of_arr gF
    obtain ⟨ν796,cZ,hlow,hS,gG⟩:=hS.freeze (i:=8) (j:=5) rfl rfl (by decide) hlow
    replace hA6:=hA6.mono Rp87.mono cZ.1
    replace hA7:=hA7.mono cZ.1
    replace a4:=a4.mono cZ.1
    replace a6:=a6.mono cZ.1
    replace aB:=aB.mono cZ.1
    replace hext:=Frz.ext_trans hext cZ
    replace hS:St w0 [arr 5 1 (fK .u8) bM aP.length bW aP,arr 5 1 (fK .u8) bL b1.length bV b1,arr 5 1 (fK .u8) bK b0.length bU b0,arr 5 1 (fK .u8) bJ aZ.length bT aZ,arr 5 1 (fK .u8) bI aY.length bS aY,blk d3 43 p0.Field.Grid.ar,blk b8 49 #[iv p0.Kind,.string p0.Name,iv p0.Time,.string p0.Sweep.Site.Name,iv p0.Sweep.Site.X,iv p0.Sweep.Site.Y,iv p0.Sweep.Site.Z,iv p0.Sweep.Site.Rose,iv p0.Sweep.Site.Gates,iv p0.Sweep.Site.Step,iv p0.Sweep.Site.Width,iv p0.Sweep.Tilt,iv p0.Sweep.Time,sv ad1 p0.Sweep.Rays cap2,iv p0.Field.Grid.X,iv p0.Field.Grid.Y,iv p0.Field.Grid.Size,iv p0.Field.Grid.Wide,iv p0.Field.Grid.High,sv ad4 p0.Field.Vals cap5,.string p0.Text],fz w0 ν796] w:=hS
    have aF:=ArrM.of_arr gG
    obtain ⟨ν800,c0,hlow,hS,gH⟩:=hS.freeze (i:=7) (j:=4) rfl rfl (by decide) hlow
    replace hA6:=hA6.mono Rp87.mono c0.1
    replace hA7:=hA7.mono c0.1
    replace a4:=a4.mono c0.1
    replace a6:=a6.mono c0.1
    replace aB:=aB.mono c0.1
    replace aF:=aF.mono c0.1
    replace hext:=Frz.ext_trans hext c0
    have aR:=ArrM.of_arr gH
    obtain ⟨ν804,bC,hlow,hS,gI⟩:=hS.freeze (i:=6) (j:=3) rfl rfl (by decide) hlow
    replace hA6:=hA6.mono Rp87.mono bC.1
    replace hA7:=hA7.mono bC.1
    replace a4:=a4.mono bC.1
    replace a6:=a6.mono bC.1
    replace aB:=aB.mono bC.1
    replace aF:=aF.mono bC.1
    replace aR:=aR.mono bC.1
    replace hext:=Frz.ext_trans hext bC
    have bY:=ArrM.of_arr gI
    obtain ⟨ν808,aT,hlow,hS,gJ⟩:=hS.freeze (i:=5) (j:=2) rfl rfl (by decide) hlow
    replace hA6:=hA6.mono Rp87.mono aT.1
    replace hA7:=hA7.mono aT.1
    replace a4:=a4.mono aT.1
    replace a6:=a6.mono aT.1
    replace aB:=aB.mono aT.1
    replace aF:=aF.mono aT.1
    replace aR:=aR.mono aT.1
    replace bY:=bY.mono aT.1
    replace hext:=Frz.ext_trans hext aT
    have d8:=ArrM.of_arr gJ
    obtain ⟨ν812,aM,hlow,hS,gK⟩:=hS.freeze (i:=4) (j:=1) rfl rfl (by decide) hlow
    replace hA6:=hA6.mono Rp87.mono aM.1
    replace hA7:=hA7.mono aM.1
    replace a4:=a4.mono aM.1
    replace a6:=a6.mono aM.1
    replace aB:=aB.mono aM.1
    replace aF:=aF.mono aM.1
    replace aR:=aR.mono aM.1
    replace bY:=bY.mono aM.1
    replace d8:=d8.mono aM.1
    replace hext:=Frz.ext_trans hext aM
    replace hS:St w0 [arr 5 1 (fK .u8) bM aP.length bW aP,blk d3 43 p0.Field.Grid.ar,blk b8 49 #[iv p0.Kind,.string p0.Name,iv p0.Time,.string p0.Sweep.Site.Name,iv p0.Sweep.Site.X,iv p0.Sweep.Site.Y,iv p0.Sweep.Site.Z,iv p0.Sweep.Site.Rose,iv p0.Sweep.Site.Gates,iv p0.Sweep.Site.Step,iv p0.Sweep.Site.Width,iv p0.Sweep.Tilt,iv p0.Sweep.Time,sv ad1 p0.Sweep.Rays cap2,iv p0.Field.Grid.X,iv p0.Field.Grid.Y,iv p0.Field.Grid.Size,iv p0.Field.Grid.Wide,iv p0.Field.Grid.High,sv ad4 p0.Field.Vals cap5,.string p0.Text],fz w0 ν812] w:=hS
    have dI:=ArrM.of_arr gK
    obtain ⟨ν816,aH,hlow,hS,gL⟩:=hS.freeze (i:=3) (j:=0) rfl rfl (by decide) hlow
    replace hA6:=hA6.mono Rp87.mono aH.1
    replace hA7:=hA7.mono aH.1
    replace a4:=a4.mono aH.1
    replace a6:=a6.mono aH.1
    replace aB:=aB.mono aH.1
    replace aF:=aF.mono aH.1
    replace aR:=aR.mono aH.1
    replace bY:=bY.mono aH.1
    replace d8:=d8.mono aH.1
    replace dI:=dI.mono aH.1
    replace hext:=Frz.ext_trans hext aH
    have eX:=ArrM.of_arr gL
    have f2:All2 (Rp22 ν816) ([[sv cJ c8 cU],[sv cK c9 cV],[sv cL cA cW],[sv cM cB cX],[sv bI aY bS],[sv bJ aZ bT],[sv bK b0 bU],[sv bL b1 bV],[sv bM aP bW]]:List (List Value)) [c8,c9,cA,cB,aY,aZ,b0,b1,aP]:=(All2.cons ⟨cJ,cU,rfl,a4⟩ (All2.cons ⟨cK,cV,rfl,a6⟩ (All2.cons ⟨cL,cW,rfl,aB⟩ (All2.cons ⟨cM,cX,rfl,aF⟩ (All2.cons ⟨bI,bS,rfl,aR⟩ (All2.cons ⟨bJ,bT,rfl,bY⟩ (All2.cons ⟨bK,bU,rfl,d8⟩ (All2.cons ⟨bL,bV,rfl,dI⟩ (All2.cons ⟨bM,bW,rfl,eX⟩ All2.nil)))))))))
    refine SK.wi (Qp (e:=22) (sz:=1) (f:=fN 1) (t:=105) (len:=9) (fun dR=>[(98,sb dR 9)]) #[(0,sv cJ c8 cU),(1,sv cK c9 cV),(2,sv cL cA cW),(3,sv cM cB cX),(4,sv bI aY bS),(5,sv bJ aZ bT),(6,sv bK b0 bU),(7,sv bL b1 bV),(8,sv bM aP bW)] #[sv cJ c8 cU,sv cK c9 cV,sv cL cA cW,sv cM cB cX,sv bI aY bS,sv bJ aZ bT,sv bK b0 bU,sv bL b1 bV,sv bM aP bW] ([[sv cJ c8 cU],[sv cK c9 cV],[sv cL cA cW],[sv cM cB cX],[sv bI aY bS],[sv bJ aZ bT],[sv bK b0 bU],[sv bL b1 bV],[sv bM aP bW]]:List (List Value)) ([c8,c9,cA,cB,aY,aZ,b0,b1,aP]) hF hS kr ⟨kr⟩ kr (Bz 1) rfl rfl rfl kr (fun _=>⟨kr⟩) fun dR w a hF hS=>?_)
    obtain ⟨eR,fX,h⟩:=A1 h
    refine SK.wi (rR (fun eN=>[(99,eN)]) hF (Gz F _ _ fX (Ay w) w (A5 w) (ArrQ.of_own (hS.arr (i:=0) rfl) f2 Rp22.mono (FrzAt.le_mem (hS.frz (i:=3) rfl hlow)))) ?_)
    rintro eN w a ⟨dO,dU,rfl,hQ⟩ hF
    replace hS:=hS.madeL hQ
    refine rn 1 29 [(2,sv dO eR dU)] hF fun a hF=>?_
    refine wfn rfl ?_
    refine wpIn_ret (Ai<|A6<|Ad [.tmp 2] [sv dO eR dU] hF rfl ⟨rfl,trivial⟩ ?_)
    obtain rfl:=Ao h
    exact ⟨_,rfl,_,_,rfl,St.pick [0] (by decide) hS⟩
   ·replace h:=Ae h hc
    refine wpIn_skip (Ab<|A0<|?_)
    exact ⟨hF.sub kr,St.pick [0,1] (by decide) hS,h⟩
 rintro a w ⟨hF,hS,h⟩
 rw [Ja] at h
 refine Ar ?_
 obtain ⟨c2,f5,h⟩:=A1 h
 obtain ⟨c3,f6,h⟩:=A1 h
 refine Bt 6 [0,3] _ (D:=fun w=>St w0 [blk b8 49 #[iv p0.Kind,.string p0.Name,iv p0.Time,.string p0.Sweep.Site.Name,iv p0.Sweep.Site.X,iv p0.Sweep.Site.Y,iv p0.Sweep.Site.Z,iv p0.Sweep.Site.Rose,iv p0.Sweep.Site.Gates,iv p0.Sweep.Site.Step,iv p0.Sweep.Site.Width,iv p0.Sweep.Tilt,iv p0.Sweep.Time,sv ad1 p0.Sweep.Rays cap2,iv p0.Field.Grid.X,iv p0.Field.Grid.Y,iv p0.Field.Grid.Size,iv p0.Field.Grid.Wide,iv p0.Field.Grid.High,sv ad4 p0.Field.Vals cap5,.string p0.Text]] w∧FrzAt μ w) kr kr hF.size (fun w hx=>?_) (fun _ _ h=>h)
 replace hS:=hS.later hx
 refine ⟨⟨St.pick [0] (by decide) hS,hS.frz (i:=1) rfl hlow⟩,?_⟩
 have gN:=Frz.le_refl μ
 refine WT.s [1,2,4,5] [0] kr kr ?_
 refine rC 4 [(102,iv p0.Time),(105,.string p0.Text)] hF (oL 3 0 2 (fun _ hd=>hd.1) rfl rfl<|oL 9 0 20 (fun _ hd=>hd.1) rfl rfl<|A9) fun a hF=>?_
 refine WRun.fin ?_
 refine all_cons ?_ (At)
 refine qR (fun dX=>[(100,dX)]) hF (Au F _ _ f5 (Ay w) w (A5 w)) ?_
 rintro dX w a ⟨cC,cN,rfl,hQ⟩ hF
 replace hS:=hS.madeL hQ
 refine ⟨⟨St.pick [1] (by decide) hS,(hS.frz (i:=2) rfl hlow)⟩,?_⟩
 refine WT.s [] [3] kr kr ?_
 refine WRun.fin ?_
 refine all_cons ?_ (At)
 refine qR (fun dY=>[(100,sv cC c2 cN),(103,dY)]) hF (Au F _ _ f6 (Ay w) w (A5 w)) ?_
 rintro dY w a ⟨cD,cO,rfl,hQ⟩ hF
 replace hS:=hS.madeL hQ
 refine ⟨⟨St.pick [2] (by decide) hS,(hS.frz (i:=3) rfl hlow)⟩,?_⟩
 refine WT.z [] kr ?_
 refine WRun.fin ?_
 obtain ⟨d0,f7,h⟩:=A1 h
 refine SK.wi (qR (fun dZ=>[(103,sv cD c3 cO),(106,dZ)]) hF (P4 F _ _ f7 (Ay w) w (A5 w)) ?_)
 rintro dZ w a ⟨d1,d4,rfl,hQ⟩ hF
 replace hS:=hS.madeL hQ
 obtain ⟨ν421,dJ,hlow,hS,fY⟩:=hS.freeze (i:=4) (j:=2) rfl rfl (by decide) hlow
 replace hA6:=hA6.mono Rp87.mono dJ.1
 replace hA7:=hA7.mono dJ.1
 replace hext:=Frz.ext_trans hext dJ
 have d6:=ArrM.of_arr fY
 obtain ⟨ν425,dC,hlow,hS,fZ⟩:=hS.freeze (i:=3) (j:=1) rfl rfl (by decide) hlow
 replace hA6:=hA6.mono Rp87.mono dC.1
 replace hA7:=hA7.mono dC.1
 replace d6:=d6.mono dC.1
 replace hext:=Frz.ext_trans hext dC
 have dG:=ArrM.of_arr fZ
 obtain ⟨ν429,d9,hlow,hS,g0⟩:=hS.freeze (i:=2) (j:=0) rfl rfl (by decide) hlow
 replace hA6:=hA6.mono Rp87.mono d9.1
 replace hA7:=hA7.mono d9.1
 replace d6:=d6.mono d9.1
 replace dG:=dG.mono d9.1
 replace hext:=Frz.ext_trans hext d9
 have eU:=ArrM.of_arr g0
 have f0:All2 (Rp22 ν429) ([[sv cC c2 cN],[sv cD c3 cO],[sv d1 d0 d4]]:List (List Value)) [c2,c3,d0]:=(All2.cons ⟨cC,cN,rfl,d6⟩ (All2.cons ⟨cD,cO,rfl,dG⟩ (All2.cons ⟨d1,d4,rfl,eU⟩ All2.nil)))
 refine SK.wi (Qp (e:=22) (sz:=1) (f:=fN 1) (t:=105) (len:=3) (fun dP=>[(107,sb dP 3)]) #[(0,sv cC c2 cN),(1,sv cD c3 cO),(2,sv d1 d0 d4)] #[sv cC c2 cN,sv cD c3 cO,sv d1 d0 d4] ([[sv cC c2 cN],[sv cD c3 cO],[sv d1 d0 d4]]:List (List Value)) ([c2,c3,d0]) hF hS kr ⟨kr⟩ kr (Bz 1) rfl rfl rfl kr (fun _=>⟨kr⟩) fun dP w a hF hS=>?_)
 obtain ⟨eP,f8,h⟩:=A1 h
 refine SK.wi (rR (fun e0=>[(108,e0)]) hF (Gz F _ _ f8 (Ay w) w (A5 w) (ArrQ.of_own (hS.arr (i:=0) rfl) f0 Rp22.mono (FrzAt.le_mem (hS.frz (i:=2) rfl hlow)))) ?_)
 rintro e0 w a ⟨dM,dS,rfl,hQ⟩ hF
 replace hS:=hS.madeL hQ
 refine rn 1 10 [(2,sv dM eP dS)] hF fun a hF=>?_
 refine wfn rfl ?_
 refine wpIn_ret (Ad [.tmp 2] [sv dM eP dS] hF rfl ⟨rfl,trivial⟩ ?_)
 obtain rfl:=Ao h
 exact ⟨_,rfl,_,_,rfl,St.pick [0] (by decide) hS⟩
end Go.Proofs.YtifbomimeodibaaGreat
