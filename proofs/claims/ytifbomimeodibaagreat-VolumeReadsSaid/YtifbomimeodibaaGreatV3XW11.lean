import Derived.Test.YtifbomimeodibaaGreatV3XD
import Derived.Test.YtifbomimeodibaaGreatProg
import Derived.Test.YtifbomimeodibaaGreatV3XW1
import Derived.Test.YtifbomimeodibaaGreatV3XW4
import Derived.Test.YtifbomimeodibaaGreatV3XW7
import Derived.Test.YtifbomimeodibaaGreatV3XW8
namespace Go.Proofs.YtifbomimeodibaaGreat
open Go Go.RowKit Go.Eng
set_option maxRecDepth 10000
set_option maxHeartbeats 4000000
set_option linter.unusedVariables false
set_option linter.unusedSimpArgs false
theorem Kj (F:Nat) (p0:volume_sweep) (res:Int) (h:Di F p0=some res) (μ:Frz) (w0:World) (hm:FrzAt μ w0) {ad1:Option Addr} {cap2:Nat} {css3:List (List Value)} (hA4:ArrQ μ 1 Rp87 ad1 cap2 css3 p0.Sweep.Rays):Calls Tryz.prog 162 #[.agg #[.string p0.Sweep.Site.Name,iv p0.Sweep.Site.X,iv p0.Sweep.Site.Y,iv p0.Sweep.Site.Z,iv p0.Sweep.Site.Rose,iv p0.Sweep.Site.Gates,iv p0.Sweep.Site.Step,iv p0.Sweep.Site.Width,iv p0.Sweep.Tilt,iv p0.Sweep.Time,sv ad1 p0.Sweep.Rays cap2]] w0 (fun e w=>e=.returned (iv res)∧Ext w0 w):=by
 obtain ⟨hlow,hS⟩:=hm.init
 have hext:=Frz.ext_refl w0.heap.size μ
 rw [Di] at h
 refine Ah Tryz.func162 rfl 6 [(0,.agg #[.string p0.Sweep.Site.Name,iv p0.Sweep.Site.X,iv p0.Sweep.Site.Y,iv p0.Sweep.Site.Z,iv p0.Sweep.Site.Rose,iv p0.Sweep.Site.Gates,iv p0.Sweep.Site.Step,iv p0.Sweep.Site.Width,iv p0.Sweep.Tilt,iv p0.Sweep.Time,sv ad1 p0.Sweep.Rays cap2])] rfl rfl kr fun a w hw hF=>?_
 replace hS:=hS.cast hw
 clear hw
 refine esr ?_
 refine SK.wi (Ld (t:=156) (fun b5=>[(1,pb b5)]) (.agg #[.string p0.Sweep.Site.Name,iv p0.Sweep.Site.X,iv p0.Sweep.Site.Y,iv p0.Sweep.Site.Z,iv p0.Sweep.Site.Rose,iv p0.Sweep.Site.Gates,iv p0.Sweep.Site.Step,iv p0.Sweep.Site.Width,iv p0.Sweep.Tilt,iv p0.Sweep.Time,sv ad1 p0.Sweep.Rays cap2]) #[.string p0.Sweep.Site.Name,iv p0.Sweep.Site.X,iv p0.Sweep.Site.Y,iv p0.Sweep.Site.Z,iv p0.Sweep.Site.Rose,iv p0.Sweep.Site.Gates,iv p0.Sweep.Site.Step,iv p0.Sweep.Site.Width,iv p0.Sweep.Tilt,iv p0.Sweep.Time,sv ad1 p0.Sweep.Rays cap2] hF hS kr ⟨kr⟩ kr (fun _=>⟨kr⟩) fun b5 w a hF hS=>?_)
 refine rn 1 2 [(1,pb b5)] hF fun a hF=>?_
 refine wfn rfl ?_
 refine esr ?_
 obtain ⟨y6,hy6,h⟩:=A1 h
 refine rX 4 4 [(2,iv y6)] hF (oN 41 0 0 11 hS.e rfl<|oC (fun w2 hd=>Qi F p0.Sweep _ hy6 _ w2 (Ae w2) (hA4.mono Rp87.mono (FrzAt.le_mem ((hS.later hd).frz (i:=1) rfl hlow))))<|A9) fun a w hF hx=>?_
 replace hS:=hS.later hx
 refine wfn rfl ?_
 refine wpIn_ret (Ab [.tmp 2] [iv y6] hF rfl ⟨rfl,trivial⟩ ?_)
 obtain rfl:=Ao h
 exact ⟨rfl,hS.ext⟩
theorem Ju (F:Nat) (p0:volume_writer) (p1:(List api_Echo)) (p2:api_Echo) (res:volume_writer) (h:Ei F p0 p1 p2=some res) (μ:Frz) (w0 w1:World) (T_:List Res) (hlow:Ay w0 μ) {cb0:Nat} {ad1:Option Addr} {cap2:Nat} {ad3:Option Addr} {cap4:Nat} (hA5:ArrM μ 14 api_Echo.cells ad3 cap4 p1) (hS:St w0 (fz w0 μ::blk cb0 138 #[sv ad1 p0.b cap2]::arrT 5 1 (fK .u8) ad1 p0.b.length cap2 p0.b::T_) w1):Bu Tryz.prog 169 #[pb cb0,sv ad3 p1 cap4,p2.ag,.func (.func 170) #[pb cb0] #[]] w1 (fun e w=>∃(ν_:Frz) (b1:Option Addr) (b3:Nat),μ.ext w0.heap.size ν_∧Ay w0 ν_∧e=(.tuple #[])∧St w0 (fz w0 ν_::blk cb0 138 #[sv b1 res.b b3]::arrT 5 1 (fK .u8) b1 res.b.length b3 res.b::T_) w):=by
 rw [Ei] at h
 have hext:=Frz.ext_refl w0.heap.size μ
 refine Ah Tryz.func169 rfl 44 [(0,pb cb0),(1,sv ad3 p1 cap4),(2,p2.ag),(3,.func (.func 170) #[pb cb0] #[])] rfl rfl kr fun a w hw hF=>?_
 replace hS:=hS.cast hw
 clear hw
 refine esr ?_
 refine SK.wi (qB 149 (p2.ag) p2.ar (fun b6=>[(6,pb b6)]) hF hS fun b6 w a hF hS=>?_)
 refine wfn rfl ?_
 refine wpIn_block ?_
 have b4:=Frz.le_refl μ
 refine Cq (fun n_ a w=>∃(a7:Int) (a8:Int) (a9:Int) (aA:Int) (aB:Int) (aC:Int) (aD:Int) (aE:Int) (aF:Int) (aG:Int) (aH:Int) (aI:Int) (aJ:Int) (aK:Int) (a6:(List Int)) (a4:(List api_Echo)) (ν120:Frz) (aO:Option Addr) (aP:Nat) (a3:Option Addr) (a0:Nat),Fr 44 [] [(0,pb cb0),(1,sv a3 a4 a0),(3,.func (.func 170) #[pb cb0] #[]),(6,pb b6)] a∧St w0 (arrT 5 1 (fK .u8) aO a6.length aP a6::blk b6 149 #[iv a7,iv a8,iv aD,iv aE,iv aF,iv aG,iv aH,iv aI,iv aJ,iv aK,iv a9,iv aA,iv aB,iv aC]::fz w0 ν120::blk cb0 138 #[sv aO a6 aP]::T_) w∧(ArrM ν120 14 api_Echo.cells a3 a0 a4)∧(μ.le ν120)∧(μ.ext w0.heap.size ν120)∧(Ay w0 ν120)∧Cm F n_ a7 a8 a9 aA aB aC aD aE aF aG aH aI aJ aK a6 a4=some res) F ⟨p2.Kind,p2.Power.Lo,p2.Match.Lo,p2.Match.Hi,p2.Turn.Lo,p2.Turn.Hi,p2.Power.Hi,p2.Steps.1.Lo,p2.Steps.1.Hi,p2.Steps.2.Lo,p2.Steps.2.Hi,p2.Spread,p2.Ratio.Lo,p2.Ratio.Hi,p0.b,p1,μ,ad1,cap2,ad3,cap4,hF.sub kr,hS.s3,hA5,b4,hext,hlow,h⟩ ?_
 clear b4
 rintro nk1 a w ⟨a7,a8,a9,aA,aB,aC,aD,aE,aF,aG,aH,aI,aJ,aK,a6,a4,ν120,aO,aP,a3,a0,hF,hS,aM,aN,hext,hlow,h⟩
 rcases nk1 with _|nk1
 ·cases (show (none:Option volume_writer)=some res from h)
 replace hA5:=hA5.mono aN
 obtain ⟨k1,hk1⟩:∃k,k=Cm F nk1:=⟨_,rfl⟩
 replace h:Dj F k1 a7 a8 a9 aA aB aC aD aE aF aG aH aI aJ aK a6 a4=some res:=by rw [hk1];exact h
 rw [Dj] at h
 refine Ar ?_
 refine qnB [(11,.bool (decide ((ln a4)>0)))] hF fun a hF=>?_
 refine Ai hF rfl (fun hc=>?_) (fun hc=>?_)
 ·replace h:=Ag h hc
  refine wpIn_skip (A0 ?_)
  refine wpIn_block ?_
  refine qnB [(8,iv 0)] hF fun a hF=>?_
  refine Dg (fun a w=>∃(a1:Int),Fr 44 [] [(0,pb cb0),(1,sv a3 a4 a0),(3,.func (.func 170) #[pb cb0] #[]),(6,pb b6),(8,iv a1)] a∧St w0 (arrT 5 1 (fK .u8) aO a6.length aP a6::blk b6 149 #[iv a7,iv a8,iv aD,iv aE,iv aF,iv aG,iv aH,iv aI,iv aJ,iv aK,iv a9,iv aA,iv aB,iv aC]::fz w0 ν120::blk cb0 138 #[sv aO a6 aP]::T_) w∧Dl F a7 a8 a9 aA aB aC aD aE aF aG aH aI aJ aK a6 a4 k1 a1=some res) ?_ ?_
  ·skip
   refine wpIn_block ?_
   refine Cq (fun n_ a w=>∃(aL:Int),Fr 44 [] [(0,pb cb0),(1,sv a3 a4 a0),(3,.func (.func 170) #[pb cb0] #[]),(6,pb b6),(8,iv aL)] a∧St w0 (arrT 5 1 (fK .u8) aO a6.length aP a6::blk b6 149 #[iv a7,iv a8,iv aD,iv aE,iv aF,iv aG,iv aH,iv aI,iv aJ,iv aK,iv a9,iv aA,iv aB,iv aC]::fz w0 ν120::blk cb0 138 #[sv aO a6 aP]::T_) w∧Cn F a7 a8 a9 aA aB aC aD aE aF aG aH aI aJ aK a6 a4 k1 n_ aL=some res) F ⟨0,hF.sub kr,hS,h⟩ ?_
   rintro nk3 a w ⟨aL,hF,hS,h⟩
   rcases nk3 with _|nk3
   ·cases (show (none:Option volume_writer)=some res from h)
   obtain ⟨k3,hk3⟩:∃k,k=Cn F a7 a8 a9 aA aB aC aD aE aF aG aH aI aJ aK a6 a4 k1 nk3:=⟨_,rfl⟩
   replace h:Dk F a7 a8 a9 aA aB aC aD aE aF aG aH aI aJ aK a6 a4 k1 k3 aL=some res:=by rw [hk3];exact h
   rw [Dk] at h
   refine Ar ?_
   refine Ar ?_
   obtain ⟨a2,b9,h⟩:=A1 h
   refine qD 12 [(23,.bool (bif (decide (aL<(ln a4))) then (((a2.Kind:Int)==a7)&&((((a2.Power.Lo:Int)==a8)&&(((a2.Power.Hi:Int)==aD)&&true))&&(((((a2.Steps.1.Lo:Int)==aE)&&(((a2.Steps.1.Hi:Int)==aF)&&true))&&((((a2.Steps.2.Lo:Int)==aG)&&(((a2.Steps.2.Hi:Int)==aH)&&true))&&true))&&(((a2.Spread:Int)==aI)&&((((a2.Ratio.Lo:Int)==aJ)&&(((a2.Ratio.Hi:Int)==aK)&&true))&&((((a2.Match.Lo:Int)==a9)&&(((a2.Match.Hi:Int)==aA)&&true))&&((((a2.Turn.Lo:Int)==aB)&&(((a2.Turn.Hi:Int)==aC)&&true))&&true))))))) else false))] hF (oX (.run [⟨16,true,(decide (aL<(ln a4)))⟩] (Instr.indexAt 87 (sv a3 a4 a0) (iv aL)) (.pointer (some (Bj a3 aL 14)))) (Hs (aM _ (hS.frz (i:=2) rfl hlow)) kr (fun hk=>C9 b9 hk))<|oX (.run [⟨16,true,(decide (aL<(ln a4)))⟩] (Instr.loadAt 149 (.pointer (some (Bj a3 aL 14)))) (a2.ag)) (Ti (m:=14) (i:=aL) (us:=a2.cells) 0 api_Echo.cells_len (fun _ hd=>(aM _ ((hS.later hd).frz (i:=2) rfl hlow))) kr (fun hk=>C9 b9 hk) ⟨rfl,rfl⟩)<|oX (.run [⟨16,true,(decide (aL<(ln a4)))⟩] (Instr.loadAt 149 (pb b6)) (.agg #[iv a7,iv a8,iv aD,iv aE,iv aF,iv aG,iv aH,iv aI,iv aJ,iv aK,iv a9,iv aA,iv aB,iv aC])) (obN (us:=[iv a7,iv a8,iv aD,iv aE,iv aF,iv aG,iv aH,iv aI,iv aJ,iv aK,iv a9,iv aA,iv aB,iv aC]) kr (fun _ hd=>((hS.later hd).blk (i:=1) rfl).cells rfl))<|oX (.run [⟨16,true,(decide (aL<(ln a4)))⟩] (eqS .eql 149 a2.ar #[iv a7,iv a8,iv aD,iv aE,iv aF,iv aG,iv aH,iv aI,iv aJ,iv aK,iv a9,iv aA,iv aB,iv aC]) (.bool (((a2.Kind:Int)==a7)&&((((a2.Power.Lo:Int)==a8)&&(((a2.Power.Hi:Int)==aD)&&true))&&(((((a2.Steps.1.Lo:Int)==aE)&&(((a2.Steps.1.Hi:Int)==aF)&&true))&&((((a2.Steps.2.Lo:Int)==aG)&&(((a2.Steps.2.Hi:Int)==aH)&&true))&&true))&&(((a2.Spread:Int)==aI)&&((((a2.Ratio.Lo:Int)==aJ)&&(((a2.Ratio.Hi:Int)==aK)&&true))&&((((a2.Match.Lo:Int)==a9)&&(((a2.Match.Hi:Int)==aA)&&true))&&((((a2.Turn.Lo:Int)==aB)&&(((a2.Turn.Hi:Int)==aC)&&true))&&true))))))))) (Lg kr kr)<|A9) fun a w hF hx=>?_
   replace hS:=hS.later hx
   refine wfn rfl ?_
   refine Ai hF rfl (fun hc=>?_) (fun hc=>?_)
   ·replace h:=Ag h hc
    refine wpIn_skip (A0 ?_)
    refine wpIn_block ?_
    refine WI.region ?_
    obtain ⟨bA,bD,h⟩:=A1 h
    refine ro 3 3 [(0,pb cb0),(1,sv a3 a4 a0),(3,.func (.func 170) #[pb cb0] #[]),(6,pb b6),(8,iv bA)] hF (oA 3 bD<|A9) fun a hF=>?_
    refine WI.fin rfl (Aa<|A0<|?_)
    rw [hk3] at h
    exact ⟨nk3,Nat.lt_succ_self _,bA,hF.sub kr,hS,h⟩
   ·replace h:=Af h hc
    refine wpIn_exit (A7<|A7<|Av<|A0 ?_)
    exact ⟨aL,hF.sub kr,hS,h⟩
  rintro a w ⟨a1,hF,hS,h⟩
  rw [Dl] at h
  refine esr ?_
  refine qn 2 2 [(26,pb cb0),(27,iv a1)] hF fun a hF=>?_
  refine SK.wi (G3 (e:=3) (sz:=1) (f:=fI) (t:=69) (len:=1) (fun b2=>[(0,pb cb0),(1,sv a3 a4 a0),(3,.func (.func 170) #[pb cb0] #[]),(6,pb b6),(8,iv a1),(26,pb cb0),(28,sb b2 1)]) #[(0,iv a1)] #[iv a1] ([a1]) hF hS kr ⟨kr⟩ kr Gc rfl rfl kr (fun _=>⟨kr⟩) fun b2 w a hF hS=>?_)
  obtain ⟨ν155,aW,hlow,hS,bG⟩:=hS.freeze (i:=3) (j:=0) rfl rfl (by decide) hlow
  replace hA5:=hA5.mono aW.1
  replace aM:=aM.mono aW.1
  replace aN:=Frz.le_trans aN aW.1
  replace hext:=Frz.ext_trans hext aW
  have aT:=ArrM.of_arr bG
  obtain ⟨aX,bE,h⟩:=A1 h
  replace hS:=hS.s3.s3
  refine SK.wi (rR (fun bH=>[(0,pb cb0),(1,sv a3 a4 a0),(3,.func (.func 170) #[pb cb0] #[]),(6,pb b6),(8,iv a1)]) hF (At F _ _ _ bE ν155 w0 w _ hlow aT hS) ?_)
  rintro bH w a ⟨ν160,aY,aZ,aU,hlow,rfl,hS⟩ hF
  replace hext:=Frz.ext_trans hext aU
  replace hA5:=hA5.mono aU.1
  replace aM:=aM.mono aU.1
  replace aT:=aT.mono aU.1
  replace aN:=Frz.le_trans aN aU.1
  refine wfn rfl ?_
  refine esr ?_
  obtain ⟨aS,b5,h⟩:=A1 h
  have aQ:ArrM ν160 14 api_Echo.cells (Aq a3 a0 a1.toNat 14) (a0-a1.toNat) aS:=fun w_ hw_=>(aM w_ hw_).cutD api_Echo.cells_len b5
  refine ro 4 4 [(0,pb cb0),(1,.slice (Aq a3 a0 a1.toNat 14) aS.length (a0-a1.toNat)),(3,.func (.func 170) #[pb cb0] #[]),(6,pb b6)] hF (oX (.run [] (Instr.sliceAt 87 (sv a3 a4 a0) (some (iv a1)) none none) (.slice (Aq a3 a0 a1.toNat 14) aS.length (a0-a1.toNat))) (Kq kr (aM _ (hS.frz (i:=0) rfl hlow)) (fun _=>b5))<|A9) fun a hF=>?_
  refine wfn rfl ?_
  refine qnB [(35,.bool (decide ((ln aS)>0)))] hF fun a hF=>?_
  refine Ai hF rfl (fun hc=>?_) (fun hc=>?_)
  ·replace h:=Ag h hc
   refine Ar ?_
   obtain ⟨a5,b8,h⟩:=A1 h
   obtain ⟨aV,b7,h⟩:=A1 h
   refine Cz 7 [5] _ (D:=fun w=>St w0 [blk cb0 138 #[sv aY aX.b aZ],arrT 5 1 (fK .u8) aY aX.b.length aZ aX.b] w∧FrzAt ν160 w) kr kr hF.size (fun w hx=>?_) (fun _ _ h=>h)
   replace hS:=hS.later hx
   refine ⟨⟨St.pick [1,2] (by decide) hS,hS.frz (i:=0) rfl hlow⟩,?_⟩
   have bK:=Frz.le_refl ν160
   have b0:ArrM ν160 14 api_Echo.cells (Aq (Aq a3 a0 a1.toNat 14) (a0-a1.toNat) (1:Int).toNat 14) ((a0-a1.toNat)-(1:Int).toNat) aV:=fun w_ hw_=>(aQ w_ hw_).cutD api_Echo.cells_len b7
   refine WT.s [0,1,2,3,4] [5] kr kr ?_
   refine qC 5 [(38,a5.ag),(40,.slice (Aq (Aq a3 a0 a1.toNat 14) (a0-a1.toNat) (1:Int).toNat 14) aV.length ((a0-a1.toNat)-(1:Int).toNat))] hF (oI 87 (aQ _ (hS.frz (i:=0) rfl hlow)) b8<|oG 149 0 14 api_Echo.cells_len (fun _ hd=>(aQ _ hd.2)) b8<|oX (.run [] (Instr.sliceAt 87 (.slice (Aq a3 a0 a1.toNat 14) aS.length (a0-a1.toNat)) (some (iv 1)) none none) (.slice (Aq (Aq a3 a0 a1.toNat 14) (a0-a1.toNat) (1:Int).toNat 14) aV.length ((a0-a1.toNat)-(1:Int).toNat))) (Kq kr (aQ _ (hS.frz (i:=0) rfl hlow)) (fun _=>b7))<|A9) fun a hF=>?_
   refine WRun.fin ?_
   refine all_cons ?_ (B8)
   refine qS 149 3 0 (a5.ag) a5.ar hF hS rfl fun w a hF hS=>⟨⟨St.pick [1,2] (by decide) hS,(hS.frz (i:=0) rfl hlow)⟩,?_⟩
   refine WT.z [6] kr ?_
   refine rC 1 [(0,pb cb0),(1,.slice (Aq (Aq a3 a0 a1.toNat 14) (a0-a1.toNat) (1:Int).toNat 14) aV.length ((a0-a1.toNat)-(1:Int).toNat)),(3,.func (.func 170) #[pb cb0] #[]),(6,pb b6)] hF A9 fun a hF=>?_
   refine WRun.fin ?_
   refine wfn rfl ?_
   refine WI.region ?_
   refine qo 2 2 [(41,.func (.func 170) #[pb cb0] #[]),(42,a5.ag)] hF (oN 149 3 0 14 hS.i rfl<|A9) fun a hF=>?_
   obtain ⟨bJ,bF,h⟩:=A1 h
   refine SK.wi (qR (fun bI=>[]) hF (P2 F _ _ _ bF ν160 w0 w _ hlow  hS) ?_)
   rintro bI w a ⟨ν174,bB,bC,aR,hlow,rfl,hS⟩ hF
   replace hext:=Frz.ext_trans hext aR
   replace hA5:=hA5.mono aR.1
   replace aM:=aM.mono aR.1
   replace aT:=aT.mono aR.1
   replace aQ:=aQ.mono aR.1
   replace b0:=b0.mono aR.1
   replace aN:=Frz.le_trans aN aR.1
   refine WI.fin rfl (Aa<|A0<|?_)
   rw [hk1] at h
   exact ⟨nk1,Nat.lt_succ_self _,a5.Kind,a5.Power.Lo,a5.Match.Lo,a5.Match.Hi,a5.Turn.Lo,a5.Turn.Hi,a5.Power.Hi,a5.Steps.1.Lo,a5.Steps.1.Hi,a5.Steps.2.Lo,a5.Steps.2.Hi,a5.Spread,a5.Ratio.Lo,a5.Ratio.Hi,bJ.b,aV,ν174,bB,bC,(Aq (Aq a3 a0 a1.toNat 14) (a0-a1.toNat) (1:Int).toNat 14),((a0-a1.toNat)-(1:Int).toNat),hF.sub kr,hS.s3.s3,b0,aN,hext,hlow,h⟩
  ·replace h:=Af h hc
   refine wpIn_skip (Aa<|A0<|?_)
   rw [hk1] at h
   exact ⟨nk1,Nat.lt_succ_self _,a7,a8,a9,aA,aB,aC,aD,aE,aF,aG,aH,aI,aJ,aK,aX.b,aS,ν160,aY,aZ,(Aq a3 a0 a1.toNat 14),(a0-a1.toNat),hF.sub kr,hS.s3.s3,aQ,aN,hext,hlow,h⟩
 ·replace h:=Af h hc
  refine wpIn_exit (A7<|A7<|Av<|?_)
  refine J0 hF rfl ?_
  obtain rfl:=Ao h
  replace hS:=hS.d1.s2.s2
  exact ⟨_,rfl,ν120,aO,aP,hext,hlow,rfl,hS⟩
theorem Pi (F:Nat) (p0:volume_sweep) (p1:volume_writer) (res:volume_writer) (h:Jt F p0 p1=some res) (μ:Frz) (w0 w1:World) (T_:List Res) (hlow:Ay w0 μ) {ad1:Option Addr} {cap2:Nat} {css3:List (List Value)} {cb1:Nat} {ad5:Option Addr} {cap6:Nat} (hA4:ArrQ μ 1 Rp87 ad1 cap2 css3 p0.Sweep.Rays) (hS:St w0 (fz w0 μ::blk cb1 138 #[sv ad5 p1.b cap6]::arrT 5 1 (fK .u8) ad5 p1.b.length cap6 p1.b::T_) w1):Bu Tryz.prog 166 #[.agg #[.string p0.Sweep.Site.Name,iv p0.Sweep.Site.X,iv p0.Sweep.Site.Y,iv p0.Sweep.Site.Z,iv p0.Sweep.Site.Rose,iv p0.Sweep.Site.Gates,iv p0.Sweep.Site.Step,iv p0.Sweep.Site.Width,iv p0.Sweep.Tilt,iv p0.Sweep.Time,sv ad1 p0.Sweep.Rays cap2],pb cb1] w1 (fun e w=>∃(ν_:Frz) (aR:Option Addr) (aV:Nat),μ.ext w0.heap.size ν_∧Ay w0 ν_∧e=(.tuple #[])∧St w0 (fz w0 ν_::blk cb1 138 #[sv aR res.b aV]::arrT 5 1 (fK .u8) aR res.b.length aV res.b::T_) w):=by
 rw [Jt] at h
 have hext:=Frz.ext_refl w0.heap.size μ
 refine Ah Tryz.func166 rfl 74 [(0,.agg #[.string p0.Sweep.Site.Name,iv p0.Sweep.Site.X,iv p0.Sweep.Site.Y,iv p0.Sweep.Site.Z,iv p0.Sweep.Site.Rose,iv p0.Sweep.Site.Gates,iv p0.Sweep.Site.Step,iv p0.Sweep.Site.Width,iv p0.Sweep.Tilt,iv p0.Sweep.Time,sv ad1 p0.Sweep.Rays cap2]),(1,pb cb1)] rfl rfl kr fun a w hw hF=>?_
 replace hS:=hS.cast hw
 clear hw
 refine esr ?_
 refine SK.wi (qB 156 (.agg #[.string p0.Sweep.Site.Name,iv p0.Sweep.Site.X,iv p0.Sweep.Site.Y,iv p0.Sweep.Site.Z,iv p0.Sweep.Site.Rose,iv p0.Sweep.Site.Gates,iv p0.Sweep.Site.Step,iv p0.Sweep.Site.Width,iv p0.Sweep.Tilt,iv p0.Sweep.Time,sv ad1 p0.Sweep.Rays cap2]) #[.string p0.Sweep.Site.Name,iv p0.Sweep.Site.X,iv p0.Sweep.Site.Y,iv p0.Sweep.Site.Z,iv p0.Sweep.Site.Rose,iv p0.Sweep.Site.Gates,iv p0.Sweep.Site.Step,iv p0.Sweep.Site.Width,iv p0.Sweep.Tilt,iv p0.Sweep.Time,sv ad1 p0.Sweep.Rays cap2] (fun b7=>[(2,pb b7)]) hF hS fun b7 w a hF hS=>?_)
 refine wfn rfl ?_
 refine esr ?_
 refine qn 1 1 [(7,pb cb1)] hF fun a hF=>?_
 refine SK.wi (G3 (e:=3) (sz:=1) (f:=fI) (t:=69) (len:=1) (fun b8=>[(1,pb cb1),(2,pb b7),(7,pb cb1),(8,sb b8 1)]) #[(0,iv 1)] #[iv 1] ([1]) hF hS kr ⟨kr⟩ kr Gc rfl rfl kr (fun _=>⟨kr⟩) fun b8 w a hF hS=>?_)
 obtain ⟨ν9,aX,hlow,hS,bD⟩:=hS.freeze (i:=2) (j:=0) rfl rfl (by decide) hlow
 replace hA4:=hA4.mono Rp87.mono aX.1
 replace hext:=Frz.ext_trans hext aX
 have a0:=ArrM.of_arr bD
 obtain ⟨bT,b6,h⟩:=A1 h
 replace hS:=hS.s3.s3.s3
 refine SK.wi (rR (fun bH=>[(1,pb cb1),(2,pb b7)]) hF (At F _ _ _ b6 ν9 w0 w _ hlow a0 hS) ?_)
 rintro bH w a ⟨ν14,bM,bP,aM,hlow,rfl,hS⟩ hF
 replace hext:=Frz.ext_trans hext aM
 replace hA4:=hA4.mono Rp87.mono aM.1
 replace a0:=a0.mono aM.1
 refine wfn rfl ?_
 refine esr ?_
 refine qo 5 5 [(10,pb cb1),(14,.string p0.Sweep.Site.Name)] hF (oL 9 3 0 hS.i rfl rfl<|A9) fun a hF=>?_
 obtain ⟨bU,b9,h⟩:=A1 h
 refine SK.wi (qR (fun bI=>[]) hF (Hb F _ _ _ b9 ν14 w0 w _ hlow  hS) ?_)
 rintro bI w a ⟨ν20,bN,bQ,aN,hlow,rfl,hS⟩ hF
 replace hext:=Frz.ext_trans hext aN
 replace hA4:=hA4.mono Rp87.mono aN.1
 replace a0:=a0.mono aN.1
 refine wfn rfl ?_
 refine esr ?_
 refine qo 9 9 [(16,pb cb1),(20,iv p0.Sweep.Site.X),(24,iv p0.Sweep.Site.Y)] hF (oL 3 3 1 hS.i rfl rfl<|oL 3 3 2 hS.i rfl rfl<|A9) fun a hF=>?_
 refine SK.wi (G3 (e:=3) (sz:=1) (f:=fI) (t:=69) (len:=2) (fun aS=>[(1,pb cb1),(2,pb b7),(16,pb cb1),(25,sb aS 2)]) #[(0,iv p0.Sweep.Site.X),(1,iv p0.Sweep.Site.Y)] #[iv p0.Sweep.Site.X,iv p0.Sweep.Site.Y] ([p0.Sweep.Site.X,p0.Sweep.Site.Y]) hF hS kr ⟨kr⟩ kr Gc rfl rfl kr (fun _=>⟨kr⟩) fun aS w a hF hS=>?_)
 obtain ⟨ν26,aO,hlow,hS,bE⟩:=hS.freeze (i:=1) (j:=0) rfl rfl (by decide) hlow
 replace hA4:=hA4.mono Rp87.mono aO.1
 replace a0:=a0.mono aO.1
 replace hext:=Frz.ext_trans hext aO
 have a1:=ArrM.of_arr bE
 obtain ⟨bV,bA,h⟩:=A1 h
 refine SK.wi (rR (fun bJ=>[(1,pb cb1),(2,pb b7)]) hF (G5 F _ _ _ bA ν26 w0 w _ hlow a1 hS) ?_)
 rintro bJ w a ⟨ν31,bO,bR,aI,hlow,rfl,hS⟩ hF
 replace hext:=Frz.ext_trans hext aI
 replace hA4:=hA4.mono Rp87.mono aI.1
 replace a0:=a0.mono aI.1
 replace a1:=a1.mono aI.1
 refine wfn rfl ?_
 refine esr ?_
 refine qo 27 27 [(27,pb cb1),(31,iv p0.Sweep.Site.Z),(35,iv p0.Sweep.Site.Rose),(39,iv p0.Sweep.Site.Gates),(43,iv p0.Sweep.Site.Step),(47,iv p0.Sweep.Site.Width),(50,iv p0.Sweep.Tilt),(53,iv p0.Sweep.Time)] hF (oL 3 3 3 hS.i rfl rfl<|oL 3 3 4 hS.i rfl rfl<|oL 3 3 5 hS.i rfl rfl<|oL 3 3 6 hS.i rfl rfl<|oL 3 3 7 hS.i rfl rfl<|oL 3 3 8 hS.i rfl rfl<|oL 3 3 9 hS.i rfl rfl<|A9) fun a hF=>?_
 refine SK.wi (G3 (e:=3) (sz:=1) (f:=fI) (t:=69) (len:=7) (fun aT=>[(1,pb cb1),(2,pb b7),(27,pb cb1),(54,sb aT 7)]) #[(0,iv p0.Sweep.Site.Z),(1,iv p0.Sweep.Site.Rose),(2,iv p0.Sweep.Site.Gates),(3,iv p0.Sweep.Site.Step),(4,iv p0.Sweep.Site.Width),(5,iv p0.Sweep.Tilt),(6,iv p0.Sweep.Time)] #[iv p0.Sweep.Site.Z,iv p0.Sweep.Site.Rose,iv p0.Sweep.Site.Gates,iv p0.Sweep.Site.Step,iv p0.Sweep.Site.Width,iv p0.Sweep.Tilt,iv p0.Sweep.Time] ([p0.Sweep.Site.Z,p0.Sweep.Site.Rose,p0.Sweep.Site.Gates,p0.Sweep.Site.Step,p0.Sweep.Site.Width,p0.Sweep.Tilt,p0.Sweep.Time]) hF hS kr ⟨kr⟩ kr Gc rfl rfl kr (fun _=>⟨kr⟩) fun aT w a hF hS=>?_)
 obtain ⟨ν37,aJ,hlow,hS,bF⟩:=hS.freeze (i:=1) (j:=0) rfl rfl (by decide) hlow
 replace hA4:=hA4.mono Rp87.mono aJ.1
 replace a0:=a0.mono aJ.1
 replace a1:=a1.mono aJ.1
 replace hext:=Frz.ext_trans hext aJ
 have a4:=ArrM.of_arr bF
 obtain ⟨a3,bB,h⟩:=A1 h
 refine SK.wi (rR (fun bK=>[(1,pb cb1),(2,pb b7)]) hF (At F _ _ _ bB ν37 w0 w _ hlow a4 hS) ?_)
 rintro bK w a ⟨ν42,aE,aG,aC,hlow,rfl,hS⟩ hF
 replace hext:=Frz.ext_trans hext aC
 replace hA4:=hA4.mono Rp87.mono aC.1
 replace a0:=a0.mono aC.1
 replace a1:=a1.mono aC.1
 replace a4:=a4.mono aC.1
 refine wfn rfl ?_
 refine qnB [(4,.slice none 0 0)] hF fun a hF=>?_
 refine Dg (fun a w=>∃(a9:(List api_Echo)) (aF:Option Addr) (aH:Nat),Fr 74 [] [(1,pb cb1),(4,sv aF a9 aH)] a∧St w0 (arr 149 14 api_Echo.cells aF a9.length aH a9::fz w0 ν42::blk cb1 138 #[sv aE a3.b aG]::arrT 5 1 (fK .u8) aE a3.b.length aG a3.b::blk b7 156 #[.string p0.Sweep.Site.Name,iv p0.Sweep.Site.X,iv p0.Sweep.Site.Y,iv p0.Sweep.Site.Z,iv p0.Sweep.Site.Rose,iv p0.Sweep.Site.Gates,iv p0.Sweep.Site.Step,iv p0.Sweep.Site.Width,iv p0.Sweep.Tilt,iv p0.Sweep.Time,sv ad1 p0.Sweep.Rays cap2]::T_) w∧Hu F a3 a9=some res) ?_ ?_
 ·skip
  refine qoB [(58,sv ad1 p0.Sweep.Rays cap2),(59,iv (ln p0.Sweep.Rays)),(60,iv 0)] hF (oL 39 3 10 hS.i rfl rfl<|A9) fun a hF=>?_
  refine wpIn_block ?_
  replace hS:=hS.nilarr 149 14 api_Echo.cells
  refine Cq (fun n_ a w=>∃(a2:(List api_Echo)) (a5:Int) (a6:Option Addr) (a7:Nat),Fr 74 [] [(1,pb cb1),(4,sv a6 a2 a7),(58,sv ad1 p0.Sweep.Rays cap2),(59,iv (ln p0.Sweep.Rays)),(60,iv a5)] a∧St w0 (arr 149 14 api_Echo.cells a6 a2.length a7 a2::fz w0 ν42::blk cb1 138 #[sv aE a3.b aG]::arrT 5 1 (fK .u8) aE a3.b.length aG a3.b::blk b7 156 #[.string p0.Sweep.Site.Name,iv p0.Sweep.Site.X,iv p0.Sweep.Site.Y,iv p0.Sweep.Site.Z,iv p0.Sweep.Site.Rose,iv p0.Sweep.Site.Gates,iv p0.Sweep.Site.Step,iv p0.Sweep.Site.Width,iv p0.Sweep.Tilt,iv p0.Sweep.Time,sv ad1 p0.Sweep.Rays cap2]::T_) w∧G2 F p0 a3 n_ a2 a5=some res) F ⟨[],0,none,0,hF.sub kr,hS,h⟩ ?_
  rintro nk2 a w ⟨a2,a5,a6,a7,hF,hS,h⟩
  rcases nk2 with _|nk2
  ·cases (show (none:Option volume_writer)=some res from h)
  obtain ⟨k2,hk2⟩:∃k,k=G2 F p0 a3 nk2:=⟨_,rfl⟩
  replace h:Ht F p0 a3 k2 a2 a5=some res:=by rw [hk2];exact h
  rw [Ht] at h
  refine qnB [(61,.bool (decide (a5<(ln p0.Sweep.Rays))))] hF fun a hF=>?_
  refine Ar ?_
  refine Ai hF rfl (fun hc=>?_) (fun hc=>?_)
  ·replace h:=Ag h hc
   refine wpIn_skip (A0 ?_)
   refine Ar ?_
   refine wpIn_block ?_
   refine esr ?_
   obtain ⟨aP,b4,h⟩:=A1 h
   obtain ⟨bS,aW,b2⟩:=Dq hA4.2 b4
   obtain ⟨aQ,aU,rfl,b1⟩:=b2
   refine qo 3 3 [(6,sv aQ aP aU)] hF (oI 39 (hA4.at (hS.frz (i:=1) rfl hlow)) aW<|oE 87 0 (Eg 1) (fun _ hd=>(hA4.at ((hS.at_ hd).frz (i:=1) rfl hlow))) aW rfl<|A9) fun a hF=>?_
   refine wfn rfl ?_
   refine WI.region ?_
   refine qn 2 2 [(64,sv a6 a2 a7),(65,sv aQ aP aU)] hF fun a hF=>?_
   obtain ⟨aK,b3,h⟩:=A1 h
   refine SK.wi (Rw (t:=87) (ty:=87) (bytes:=112) (l:=a2) (l':=aP) (fun aA aB=>[(1,pb cb1),(4,sv a6 a2 a7),(58,sv ad1 p0.Sweep.Rays cap2),(59,iv (ln p0.Sweep.Rays)),(60,iv a5),(66,sv aA aK aB)]) 0 hF hS rfl kr ⟨kr⟩ kr (b1 _ (hS.frz (i:=1) rfl hlow)) (fun _ _=>rfl) b3 (fun _ _=>⟨kr⟩) fun aA aB w a hF hS=>?_)
   refine rn 1 4 [(1,pb cb1),(4,sv aA aK aB),(58,sv ad1 p0.Sweep.Rays cap2),(59,iv (ln p0.Sweep.Rays)),(60,iv a5)] hF fun a hF=>?_
   refine WI.fin rfl (Aa<|A0<|?_)
   refine WI.region ?_
   obtain ⟨aY,b5,h⟩:=A1 h
   refine ro 2 2 [(1,pb cb1),(4,sv aA aK aB),(58,sv ad1 p0.Sweep.Rays cap2),(59,iv (ln p0.Sweep.Rays)),(60,iv aY)] hF (oA 3 b5<|A9) fun a hF=>?_
   refine wfn rfl ?_
   rw [hk2] at h
   exact ⟨nk2,Nat.lt_succ_self _,aK,aY,aA,aB,hF.sub kr,hS,h⟩
  ·replace h:=Af h hc
   refine wpIn_exit (A7<|A7<|Av<|A0 ?_)
   exact ⟨a2,a6,a7,hF.sub kr,hS,h⟩
 rintro a w ⟨a9,aF,aH,hF,hS,h⟩
 rw [Hu] at h
 refine WI.region ?_
 refine rn 5 5 [(68,pb cb1),(69,sv aF a9 aH),(70,.agg #[iv 1,iv 0,iv 0,iv 0,iv 0,iv 0,iv 0,iv 0,iv 0,iv 0,iv 0,iv 0,iv 0,iv 0]),(72,.func (.func 170) #[pb cb1] #[])] hF fun a hF=>?_
 obtain ⟨ν92,aD,hlow,hS,bG⟩:=hS.freeze (i:=1) (j:=0) rfl rfl (by decide) hlow
 replace hA4:=hA4.mono Rp87.mono aD.1
 replace a0:=a0.mono aD.1
 replace a1:=a1.mono aD.1
 replace a4:=a4.mono aD.1
 replace hext:=Frz.ext_trans hext aD
 have aL:=ArrM.of_arr bG
 obtain ⟨bW,bC,h⟩:=A1 h
 refine SK.wi (rR (fun bL=>[]) hF (Ju F _ _ _ _ bC ν92 w0 w _ hlow aL hS) ?_)
 rintro bL w a ⟨ν97,aZ,b0,a8,hlow,rfl,hS⟩ hF
 replace hext:=Frz.ext_trans hext a8
 replace hA4:=hA4.mono Rp87.mono a8.1
 replace a0:=a0.mono a8.1
 replace a1:=a1.mono a8.1
 replace a4:=a4.mono a8.1
 replace aL:=aL.mono a8.1
 refine WI.fin rfl ?_
 refine J0 hF rfl ?_
 obtain rfl:=Ao h
 replace hS:=hS.d3
 exact ⟨_,rfl,ν97,aZ,b0,hext,hlow,rfl,hS⟩
theorem Na (F:Nat) (p0:ref12_reader) (p1:Int) (res:((List api_Echo)×ref12_reader)) (h:Dr F p0 p1=some res) (μ:Frz) (w0 w1:World) (T_:List Res) (hlow:Ay w0 μ) {cb0:Nat} {ad1:Option Addr} {cap2:Nat} (hA3:ArrM μ 1 (fK .u8) ad1 cap2 p0.b) (hS:St w0 (fz w0 μ::blk cb0 135 #[sv ad1 p0.b cap2,.bool p0.bad]::T_) w1):Bu Tryz.prog 101 #[pb cb0,iv p1] w1 (fun e w=>∃(ν_:Frz) (bZ:Option Addr) (c3:Nat) (c0:Option Addr) (c4:Nat),μ.ext w0.heap.size ν_∧Ay w0 ν_∧e=(sv bZ res.1 c3)∧ArrM ν_ 14 api_Echo.cells bZ c3 res.1∧(ArrM ν_ 1 (fK .u8) c0 c4 res.2.b)∧St w0 (fz w0 ν_::blk cb0 135 #[sv c0 res.2.b c4,.bool res.2.bad]::T_) w):=by
 rw [Dr] at h
 have hext:=Frz.ext_refl w0.heap.size μ
 refine Ah Tryz.func101 rfl 61 [(0,pb cb0),(1,iv p1)] rfl rfl kr fun a w hw hF=>?_
 replace hS:=hS.cast hw
 clear hw
 refine qnB [] hF fun a hF=>?_
 refine qnB [(5,.slice none 0 0)] hF fun a hF=>?_
 refine esr ?_
 refine qn 1 1 [(10,.agg #[iv 1,iv 0,iv 0,iv 0,iv 0,iv 0,iv 0,iv 0,iv 0,iv 0,iv 0,iv 0,iv 0,iv 0])] hF fun a hF=>?_
 refine SK.wi (qA 149 #[iv 0,iv 0,iv 0,iv 0,iv 0,iv 0,iv 0,iv 0,iv 0,iv 0,iv 0,iv 0,iv 0,iv 0] (fun b4=>[(6,pb b4)]) hF hS fun b4 w a hF hS=>?_)
 refine SK.wi (qS 149 0 0 (.agg #[iv 1,iv 0,iv 0,iv 0,iv 0,iv 0,iv 0,iv 0,iv 0,iv 0,iv 0,iv 0,iv 0,iv 0]) #[iv 1,iv 0,iv 0,iv 0,iv 0,iv 0,iv 0,iv 0,iv 0,iv 0,iv 0,iv 0,iv 0,iv 0] hF hS rfl fun w a hF hS=>?_)
 refine wfn rfl ?_
 have aL:=Frz.le_refl μ
 refine Dg (fun a w=>∃(bL:Int) (bM:Int) (bN:Int) (bO:Int) (bP:Int) (bQ:Int) (bR:Int) (bS:Int) (bT:Int) (bU:Int) (bV:Int) (bW:Int) (bX:Int) (bY:Int) (bD:(List Int)) (bG:Bool) (aU:(List api_Echo)) (ν273:Frz) (b7:Option Addr) (b9:Nat) (aW:Option Addr) (aY:Nat),Fr 61 [] [(5,sv aW aU aY)] a∧St w0 (arr 149 14 api_Echo.cells aW aU.length aY aU::blk b4 149 #[iv bL,iv bM,iv bR,iv bS,iv bT,iv bU,iv bV,iv bW,iv bX,iv bY,iv bN,iv bO,iv bP,iv bQ]::fz w0 ν273::blk cb0 135 #[sv b7 bD b9,.bool bG]::T_) w∧(ArrM ν273 1 (fK .u8) b7 b9 bD)∧(μ.le ν273)∧(μ.ext w0.heap.size ν273)∧(Ay w0 ν273)∧Bl bL bM bN bO bP bQ bR bS bT bU bV bW bX bY bD bG aU=some res) ?_ ?_
 ·skip
  refine wpIn_block ?_
  have c5:=Frz.le_refl μ
  replace hS:=hS.nilarr 149 14 api_Echo.cells
  refine Cq (fun n_ a w=>∃(a1:Int) (a2:Int) (a3:Int) (a4:Int) (a5:Int) (a6:Int) (a7:Int) (a8:Int) (a9:Int) (aA:Int) (aB:Int) (aC:Int) (aD:Int) (aE:Int) (aV:(List Int)) (aO:Bool) (aF:(List api_Echo)) (ν472:Frz) (b0:Option Addr) (b2:Nat) (aH:Option Addr) (aI:Nat),Fr 61 [] [(0,pb cb0),(1,iv p1),(5,sv aH aF aI),(6,pb b4)] a∧St w0 (arr 149 14 api_Echo.cells aH aF.length aI aF::blk b4 149 #[iv a1,iv a2,iv a7,iv a8,iv a9,iv aA,iv aB,iv aC,iv aD,iv aE,iv a3,iv a4,iv a5,iv a6]::fz w0 ν472::blk cb0 135 #[sv b0 aV b2,.bool aO]::T_) w∧(ArrM ν472 1 (fK .u8) b0 b2 aV)∧(μ.le ν472)∧(μ.ext w0.heap.size ν472)∧(Ay w0 ν472)∧Ba F p1 n_ a1 a2 a3 a4 a5 a6 a7 a8 a9 aA aB aC aD aE aV aO aF=some res) F ⟨1,0,0,0,0,0,0,0,0,0,0,0,0,0,p0.b,p0.bad,[],μ,ad1,cap2,none,0,hF.sub kr,hS,hA3,c5,hext,hlow,h⟩ ?_
  clear c5
  rintro nk2 a w ⟨a1,a2,a3,a4,a5,a6,a7,a8,a9,aA,aB,aC,aD,aE,aV,aO,aF,ν472,b0,b2,aH,aI,hF,hS,aT,aR,hext,hlow,h⟩
  rcases nk2 with _|nk2
  ·cases (show (none:Option ((List api_Echo)×ref12_reader))=some res from h)
  replace hA3:=hA3.mono aR
  replace aL:=Frz.le_trans aL aR
  obtain ⟨k2,hk2⟩:∃k,k=Ba F p1 nk2:=⟨_,rfl⟩
  replace h:D6 F p1 k2 a1 a2 a3 a4 a5 a6 a7 a8 a9 aA aB aC aD aE aV aO aF=some res:=by rw [hk2];exact h
  rw [D6] at h
  refine Ar ?_
  refine esr ?_
  refine qn 5 5 [(15,.bool (decide ((ln aF)<p1)))] hF fun a hF=>?_
  rcases Bool.eq_false_or_eq_true ((decide ((ln aF)<p1))) with b5|b5
  ·replace h:=Ag h b5
   rw [b5] at hF
   refine qo 6 11 [(21,.bool (!aO))] hF (oX (.run [⟨15,true,true⟩] (Instr.loadAt 4 (.pointer (some ⟨cb0,1,none⟩))) (.bool aO)) (ob1 kr (fun _ hd=>(hS.at_ hd).cell (i:=3) (j:=1) rfl rfl))<|A9) fun a hF=>?_
   refine wfn rfl ?_
   refine Ai hF rfl (fun hc=>?_) (fun hc=>?_)
   ·replace h:=Ag h hc
    refine wpIn_skip (A0 ?_)
    refine wpIn_block ?_
    refine esr ?_
    obtain ⟨cK,cF,h⟩:=A1 h
    refine qo 5 5 [(22,pb cb0),(26,iv cK)] hF (oS 3 cF<|A9) fun a hF=>?_
    obtain ⟨aG,cH,h⟩:=A1 h
    replace hS:=hS.s3.s3
    refine SK.wi (qR (fun c6=>[(27,c6)]) hF (Lh F _ _ _ cH ν472 w0 w _ hlow aT hS) ?_)
    rintro c6 w a ⟨ν500,bF,bH,b6,hlow,rfl,bB,hS⟩ hF
    replace hext:=Frz.ext_trans hext b6
    replace hA3:=hA3.mono b6.1
    replace aT:=aT.mono b6.1
    replace aL:=Frz.le_trans aL b6.1
    replace aR:=Frz.le_trans aR b6.1
    refine qn 1 7 [(7,iv aG.1)] hF fun a hF=>?_
    refine wfn rfl ?_
    refine Dg (fun a w=>∃(aJ:(List api_Echo)) (aM:Option Addr) (aP:Nat),Fr 61 [] [(0,pb cb0),(1,iv p1),(5,sv aM aJ aP),(6,pb b4)] a∧St w0 (arr 149 14 api_Echo.cells aM aJ.length aP aJ::fz w0 ν500::blk cb0 135 #[sv bF aG.2.b bH,.bool aG.2.bad]::blk b4 149 #[iv a1,iv a2,iv a7,iv a8,iv a9,iv aA,iv aB,iv aC,iv aD,iv aE,iv a3,iv a4,iv a5,iv a6]::T_) w∧Dt F p1 a1 a2 a3 a4 a5 a6 a7 a8 a9 aA aB aC aD aE k2 aG aJ=some res) ?_ ?_
    ·skip
     refine qnB [(8,iv 0)] hF fun a hF=>?_
     refine wpIn_block ?_
     refine Cq (fun n_ a w=>∃(aK:(List api_Echo)) (aS:Int) (aN:Option Addr) (aQ:Nat),Fr 61 [] [(0,pb cb0),(1,iv p1),(5,sv aN aK aQ),(6,pb b4),(7,iv aG.1),(8,iv aS)] a∧St w0 (arr 149 14 api_Echo.cells aN aK.length aQ aK::fz w0 ν500::blk cb0 135 #[sv bF aG.2.b bH,.bool aG.2.bad]::blk b4 149 #[iv a1,iv a2,iv a7,iv a8,iv a9,iv aA,iv aB,iv aC,iv aD,iv aE,iv a3,iv a4,iv a5,iv a6]::T_) w∧Bt F p1 a1 a2 a3 a4 a5 a6 a7 a8 a9 aA aB aC aD aE k2 aG n_ aK aS=some res) F ⟨aF,0,aH,aI,hF.sub kr,hS.s2,h⟩ ?_
     rintro nk4 a w ⟨aK,aS,aN,aQ,hF,hS,h⟩
     rcases nk4 with _|nk4
     ·cases (show (none:Option ((List api_Echo)×ref12_reader))=some res from h)
     obtain ⟨k4,hk4⟩:∃k,k=Bt F p1 a1 a2 a3 a4 a5 a6 a7 a8 a9 aA aB aC aD aE k2 aG nk4:=⟨_,rfl⟩
     replace h:F3 F p1 a1 a2 a3 a4 a5 a6 a7 a8 a9 aA aB aC aD aE k2 aG k4 aK aS=some res:=by rw [hk4];exact h
     rw [F3] at h
     refine Ar ?_
     refine qnB [(30,.bool (decide (aS<aG.1)))] hF fun a hF=>?_
     refine Ai hF rfl (fun hc=>?_) (fun hc=>?_)
     ·replace h:=Ag h hc
      refine wpIn_skip (A0 ?_)
      refine Ar ?_
      refine wpIn_block ?_
      refine WI.region ?_
      refine qo 2 2 [(33,sv aN aK aQ),(34,.agg #[iv a1,iv a2,iv a7,iv a8,iv a9,iv aA,iv aB,iv aC,iv aD,iv aE,iv a3,iv a4,iv a5,iv a6])] hF (oN 149 3 0 14 hS.i rfl<|A9) fun a hF=>?_
      refine SK.wi (G3 (e:=149) (sz:=14) (f:=api_Echo.cells) (t:=87) (len:=1) (fun c2=>[(0,pb cb0),(1,iv p1),(5,sv aN aK aQ),(6,pb b4),(7,iv aG.1),(8,iv aS),(33,sv aN aK aQ),(35,sb c2 1)]) #[(0,.agg #[iv a1,iv a2,iv a7,iv a8,iv a9,iv aA,iv aB,iv aC,iv aD,iv aE,iv a3,iv a4,iv a5,iv a6])] #[iv a1,iv a2,iv a7,iv a8,iv a9,iv aA,iv aB,iv aC,iv aD,iv aE,iv a3,iv a4,iv a5,iv a6] ([(api_Echo.mk a1 (api_Span.mk a2 a7) ((api_Span.mk a8 a9),(api_Span.mk aA aB)) aC (api_Span.mk aD aE) (api_Span.mk a3 a4) (api_Span.mk a5 a6))]) hF hS kr ⟨kr⟩ kr api_Echo.cells_len rfl rfl kr (fun _=>⟨kr⟩) fun c2 w a hF hS=>?_)
      obtain ⟨bE,cE,h⟩:=A1 h
      refine SK.wi (Rw (t:=87) (ty:=87) (bytes:=112) (l:=aK) (l':=([(api_Echo.mk a1 (api_Span.mk a2 a7) ((api_Span.mk a8 a9),(api_Span.mk aA aB)) aC (api_Span.mk aD aE) (api_Span.mk a3 a4) (api_Span.mk a5 a6))])) (fun b1 b3=>[(0,pb cb0),(1,iv p1),(5,sv aN aK aQ),(6,pb b4),(7,iv aG.1),(8,iv aS),(36,sv b1 bE b3)]) 1 hF hS rfl kr ⟨kr⟩ kr (hS.arr (i:=0) rfl) (fun _ _=>rfl) cE (fun _ _=>⟨kr⟩) fun b1 b3 w a hF hS=>?_)
      refine rn 1 5 [(0,pb cb0),(1,iv p1),(5,sv b1 bE b3),(6,pb b4),(7,iv aG.1),(8,iv aS)] hF fun a hF=>?_
      refine WI.fin rfl (Aa<|A0<|?_)
      refine WI.region ?_
      obtain ⟨c8,cG,h⟩:=A1 h
      refine ro 3 3 [(0,pb cb0),(1,iv p1),(5,sv b1 bE b3),(6,pb b4),(7,iv aG.1),(8,iv c8)] hF (oA 3 cG<|A9) fun a hF=>?_
      refine wfn rfl ?_
      rw [hk4] at h
      exact ⟨nk4,Nat.lt_succ_self _,bE,c8,b1,b3,hF.sub kr,hS.d0,h⟩
     ·replace h:=Af h hc
      refine wpIn_exit (A7<|A7<|Av<|A0 ?_)
      exact ⟨aK,aN,aQ,hF.sub kr,hS,h⟩
    rintro a w ⟨aJ,aM,aP,hF,hS,h⟩
    rw [Dt] at h
    refine qnB [(40,.bool (decide ((ln aJ)<p1)))] hF fun a hF=>?_
    refine Ai hF rfl (fun hc=>?_) (fun hc=>?_)
    ·replace h:=Ag h hc
     refine esr ?_
     refine qn 1 1 [(41,pb cb0)] hF fun a hF=>?_
     obtain ⟨a0,cI,h⟩:=A1 h
     replace hS:=hS.s2.s2
     refine SK.wi (qR (fun c7=>[(42,c7)]) hF (Pg F _ _ cI ν500 w0 w _ hlow bB hS) ?_)
     rintro c7 w a ⟨ν534,c9,cA,aZ,hlow,rfl,cC,hS⟩ hF
     replace hext:=Frz.ext_trans hext aZ
     replace hA3:=hA3.mono aZ.1
     replace aT:=aT.mono aZ.1
     replace bB:=bB.mono aZ.1
     replace aL:=Frz.le_trans aL aZ.1
     replace aR:=Frz.le_trans aR aZ.1
     refine SK.wi (qA 149 #[iv 0,iv 0,iv 0,iv 0,iv 0,iv 0,iv 0,iv 0,iv 0,iv 0,iv 0,iv 0,iv 0,iv 0] (fun aX=>[(9,pb aX),(42,a0.1.ag)]) hF hS fun aX w a hF hS=>?_)
     refine SK.wi (qS 149 0 0 (a0.1.ag) a0.1.ar hF hS rfl fun w a hF hS=>?_)
     refine wfn rfl ?_
     refine esr ?_
     refine qo 12 12 [(52,.bool (bif a0.2.bad then true else (((a0.1.Kind:Int)==a1)&&((((a0.1.Power.Lo:Int)==a2)&&(((a0.1.Power.Hi:Int)==a7)&&true))&&(((((a0.1.Steps.1.Lo:Int)==a8)&&(((a0.1.Steps.1.Hi:Int)==a9)&&true))&&((((a0.1.Steps.2.Lo:Int)==aA)&&(((a0.1.Steps.2.Hi:Int)==aB)&&true))&&true))&&(((a0.1.Spread:Int)==aC)&&((((a0.1.Ratio.Lo:Int)==aD)&&(((a0.1.Ratio.Hi:Int)==aE)&&true))&&((((a0.1.Match.Lo:Int)==a3)&&(((a0.1.Match.Hi:Int)==a4)&&true))&&((((a0.1.Turn.Lo:Int)==a5)&&(((a0.1.Turn.Hi:Int)==a6)&&true))&&true))))))))),(54,.pointer (some ⟨cb0,1,none⟩))] hF (oL 4 2 1 hS.i rfl rfl<|oX (.run [⟨48,false,a0.2.bad⟩] (Instr.loadAt 149 (pb aX)) (a0.1.ag)) (obN (us:=a0.1.cells) kr (fun _ hd=>((hS.at_ hd).blk (i:=0) rfl).cells rfl))<|oX (.run [⟨48,false,a0.2.bad⟩] (Instr.loadAt 149 (pb b4)) (.agg #[iv a1,iv a2,iv a7,iv a8,iv a9,iv aA,iv aB,iv aC,iv aD,iv aE,iv a3,iv a4,iv a5,iv a6])) (obN (us:=[iv a1,iv a2,iv a7,iv a8,iv a9,iv aA,iv aB,iv aC,iv aD,iv aE,iv a3,iv a4,iv a5,iv a6]) kr (fun _ hd=>((hS.at_ hd).blk (i:=4) rfl).cells rfl))<|oX (.run [⟨48,false,a0.2.bad⟩] (eqS .eql 149 a0.1.ar #[iv a1,iv a2,iv a7,iv a8,iv a9,iv aA,iv aB,iv aC,iv aD,iv aE,iv a3,iv a4,iv a5,iv a6]) (.bool (((a0.1.Kind:Int)==a1)&&((((a0.1.Power.Lo:Int)==a2)&&(((a0.1.Power.Hi:Int)==a7)&&true))&&(((((a0.1.Steps.1.Lo:Int)==a8)&&(((a0.1.Steps.1.Hi:Int)==a9)&&true))&&((((a0.1.Steps.2.Lo:Int)==aA)&&(((a0.1.Steps.2.Hi:Int)==aB)&&true))&&true))&&(((a0.1.Spread:Int)==aC)&&((((a0.1.Ratio.Lo:Int)==aD)&&(((a0.1.Ratio.Hi:Int)==aE)&&true))&&((((a0.1.Match.Lo:Int)==a3)&&(((a0.1.Match.Hi:Int)==a4)&&true))&&((((a0.1.Turn.Lo:Int)==a5)&&(((a0.1.Turn.Hi:Int)==a6)&&true))&&true))))))))) (Lg kr kr)<|A9) fun a hF=>?_
     refine SK.wi (qs 4 2 1 (.bool (bif a0.2.bad then true else (((a0.1.Kind:Int)==a1)&&((((a0.1.Power.Lo:Int)==a2)&&(((a0.1.Power.Hi:Int)==a7)&&true))&&(((((a0.1.Steps.1.Lo:Int)==a8)&&(((a0.1.Steps.1.Hi:Int)==a9)&&true))&&((((a0.1.Steps.2.Lo:Int)==aA)&&(((a0.1.Steps.2.Hi:Int)==aB)&&true))&&true))&&(((a0.1.Spread:Int)==aC)&&((((a0.1.Ratio.Lo:Int)==aD)&&(((a0.1.Ratio.Hi:Int)==aE)&&true))&&((((a0.1.Match.Lo:Int)==a3)&&(((a0.1.Match.Hi:Int)==a4)&&true))&&((((a0.1.Turn.Lo:Int)==a5)&&(((a0.1.Turn.Hi:Int)==a6)&&true))&&true))))))))) hF hS rfl fun w a hF hS=>?_)
     refine wfn rfl ?_
     refine esr ?_
     refine qo 2 2 [(55,sv aM aJ aP),(56,a0.1.ag)] hF (oN 149 0 0 14 hS.i rfl<|A9) fun a hF=>?_
     refine SK.wi (G3 (e:=149) (sz:=14) (f:=api_Echo.cells) (t:=87) (len:=1) (fun c1=>[(0,pb cb0),(1,iv p1),(5,sv aM aJ aP),(6,pb b4),(9,pb aX),(55,sv aM aJ aP),(57,sb c1 1)]) #[(0,a0.1.ag)] a0.1.ar ([(api_Echo.mk a0.1.Kind (api_Span.mk a0.1.Power.Lo a0.1.Power.Hi) ((api_Span.mk a0.1.Steps.1.Lo a0.1.Steps.1.Hi),(api_Span.mk a0.1.Steps.2.Lo a0.1.Steps.2.Hi)) a0.1.Spread (api_Span.mk a0.1.Ratio.Lo a0.1.Ratio.Hi) (api_Span.mk a0.1.Match.Lo a0.1.Match.Hi) (api_Span.mk a0.1.Turn.Lo a0.1.Turn.Hi))]) hF hS kr ⟨kr⟩ kr api_Echo.cells_len rfl rfl kr (fun _=>⟨kr⟩) fun c1 w a hF hS=>?_)
     obtain ⟨bK,cD,h⟩:=A1 h
     refine SK.wi (Rw (t:=87) (ty:=87) (bytes:=112) (l:=aJ) (l':=([(api_Echo.mk a0.1.Kind (api_Span.mk a0.1.Power.Lo a0.1.Power.Hi) ((api_Span.mk a0.1.Steps.1.Lo a0.1.Steps.1.Hi),(api_Span.mk a0.1.Steps.2.Lo a0.1.Steps.2.Hi)) a0.1.Spread (api_Span.mk a0.1.Ratio.Lo a0.1.Ratio.Hi) (api_Span.mk a0.1.Match.Lo a0.1.Match.Hi) (api_Span.mk a0.1.Turn.Lo a0.1.Turn.Hi))])) (fun b8 bA=>[(0,pb cb0),(1,iv p1),(5,sv aM aJ aP),(6,pb b4),(9,pb aX),(58,sv b8 bK bA)]) 4 hF hS rfl kr ⟨kr⟩ kr (hS.arr (i:=0) rfl) (fun _ _=>rfl) cD (fun _ _=>⟨kr⟩) fun b8 bA w a hF hS=>?_)
     refine rn 1 5 [(0,pb cb0),(1,iv p1),(5,sv b8 bK bA),(6,pb b4),(9,pb aX)] hF fun a hF=>?_
     refine wfn rfl ?_
     refine WI.region ?_
     refine qo 1 1 [(59,a0.1.ag)] hF (oN 149 1 0 14 hS.i rfl<|A9) fun a hF=>?_
     refine SK.wi (qS 149 5 0 (a0.1.ag) a0.1.ar hF hS rfl fun w a hF hS=>?_)
     refine WI.fin rfl (Aa<|A0<|?_)
     rw [hk2] at h
     exact ⟨nk2,Nat.lt_succ_self _,a0.1.Kind,a0.1.Power.Lo,a0.1.Match.Lo,a0.1.Match.Hi,a0.1.Turn.Lo,a0.1.Turn.Hi,a0.1.Power.Hi,a0.1.Steps.1.Lo,a0.1.Steps.1.Hi,a0.1.Steps.2.Lo,a0.1.Steps.2.Hi,a0.1.Spread,a0.1.Ratio.Lo,a0.1.Ratio.Hi,a0.2.b,bif a0.2.bad then true else (((a0.1.Kind:Int)==a1)&&((((a0.1.Power.Lo:Int)==a2)&&(((a0.1.Power.Hi:Int)==a7)&&true))&&(((((a0.1.Steps.1.Lo:Int)==a8)&&(((a0.1.Steps.1.Hi:Int)==a9)&&true))&&((((a0.1.Steps.2.Lo:Int)==aA)&&(((a0.1.Steps.2.Hi:Int)==aB)&&true))&&true))&&(((a0.1.Spread:Int)==aC)&&((((a0.1.Ratio.Lo:Int)==aD)&&(((a0.1.Ratio.Hi:Int)==aE)&&true))&&((((a0.1.Match.Lo:Int)==a3)&&(((a0.1.Match.Hi:Int)==a4)&&true))&&((((a0.1.Turn.Lo:Int)==a5)&&(((a0.1.Turn.Hi:Int)==a6)&&true))&&true))))))),bK,ν534,c9,cA,b8,bA,hF.sub kr,hS.d1.d0.s3.s3,cC,aR,hext,hlow,h⟩
    ·replace h:=Af h hc
     refine wpIn_skip (Aa<|A0<|?_)
     rw [hk2] at h
     exact ⟨nk2,Nat.lt_succ_self _,a1,a2,a3,a4,a5,a6,a7,a8,a9,aA,aB,aC,aD,aE,aG.2.b,aG.2.bad,aJ,ν500,bF,bH,aM,aP,hF.sub kr,hS.s3.s1,bB,aR,hext,hlow,h⟩
   ·replace h:=Af h hc
    refine wpIn_exit (A7<|A7<|Av<|A0 ?_)
    exact ⟨a1,a2,a3,a4,a5,a6,a7,a8,a9,aA,aB,aC,aD,aE,aV,aO,aF,ν472,b0,b2,aH,aI,hF.sub kr,hS,aT,aL,hext,hlow,h⟩
  ·replace h:=Af h b5
   rw [b5] at hF
   refine Be 6 [(0,pb cb0),(1,iv p1),(5,sv aH aF aI),(6,pb b4),(15,.bool false),(16,undef)] hF kr ⟨kr⟩ ⟨kr⟩ rfl fun a hF=>?_
   refine Be 7 [(0,pb cb0),(1,iv p1),(5,sv aH aF aI),(6,pb b4),(15,.bool false),(17,undef)] hF kr ⟨kr⟩ ⟨kr⟩ rfl fun a hF=>?_
   refine Be 8 [(0,pb cb0),(1,iv p1),(5,sv aH aF aI),(6,pb b4),(15,.bool false),(18,undef)] hF kr ⟨kr⟩ ⟨kr⟩ rfl fun a hF=>?_
   refine Be 9 [(0,pb cb0),(1,iv p1),(5,sv aH aF aI),(6,pb b4),(15,.bool false),(19,undef)] hF kr ⟨kr⟩ ⟨kr⟩ rfl fun a hF=>?_
   refine Be 10 [(0,pb cb0),(1,iv p1),(5,sv aH aF aI),(6,pb b4),(15,.bool false),(20,undef)] hF kr ⟨kr⟩ ⟨kr⟩ rfl fun a hF=>?_
   refine rn 1 11 [(0,pb cb0),(1,iv p1),(5,sv aH aF aI),(6,pb b4),(21,.bool false)] hF fun a hF=>?_
   refine wfn rfl ?_
   refine wpIn_cond_false (hF.get rfl) ?_
   refine wpIn_exit (A7<|A7<|Av<|A0 ?_)
   exact ⟨a1,a2,a3,a4,a5,a6,a7,a8,a9,aA,aB,aC,aD,aE,aV,aO,aF,ν472,b0,b2,aH,aI,hF.sub kr,hS,aT,aL,hext,hlow,h⟩
 clear aL
 rintro a w ⟨bL,bM,bN,bO,bP,bQ,bR,bS,bT,bU,bV,bW,bX,bY,bD,bG,aU,ν273,b7,b9,aW,aY,hF,hS,bI,bJ,hext,hlow,h⟩
 replace hA3:=hA3.mono bJ
 rw [Bl] at h
 refine rnB [(4,sv aW aU aY)] hF fun a hF=>?_
 refine wpIn_ret (Ab [.tmp 4] [sv aW aU aY] hF rfl ⟨rfl,trivial⟩ ?_)
 obtain ⟨ν297,bC,hlow,hS,cJ⟩:=hS.freeze (i:=2) (j:=0) rfl rfl (by decide) hlow
 replace hA3:=hA3.mono bC.1
 replace bI:=bI.mono bC.1
 replace bJ:=Frz.le_trans bJ bC.1
 replace hext:=Frz.ext_trans hext bC
 have cB:=ArrM.of_arr cJ
 obtain rfl:=Ao h
 replace hS:=hS.d0
 exact ⟨_,rfl,ν297,aW,aY,b7,b9,hext,hlow,rfl,cB,bI,hS⟩
end Go.Proofs.YtifbomimeodibaaGreat
