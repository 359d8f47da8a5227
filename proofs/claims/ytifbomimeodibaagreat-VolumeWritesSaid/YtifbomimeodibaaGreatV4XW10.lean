import Derived.Test.YtifbomimeodibaaGreatV4XD
import Derived.Test.YtifbomimeodibaaGreatProg
import Derived.Test.YtifbomimeodibaaGreatV4XW1
import Derived.Test.YtifbomimeodibaaGreatV4XW2
import Derived.Test.YtifbomimeodibaaGreatV4XW4
import Derived.Test.YtifbomimeodibaaGreatV4XW7
import Derived.Test.YtifbomimeodibaaGreatV4XW8
namespace Go.Proofs.YtifbomimeodibaaGreat
open Go Go.RowKit Go.Eng
set_option maxRecDepth 10000
set_option maxHeartbeats 4000000
set_option linter.unusedVariables false
set_option linter.unusedSimpArgs false
theorem Ko (F:Nat) (p0:volume_sweep) (res:Int) (h:Bl F p0=some res) (μ:Frz) (w0:World) (hm:FrzAt μ w0) {ad1:Option Addr} {cap2:Nat} {css3:List (List Value)} (hA4:ArrQ μ 1 Rp87 ad1 cap2 css3 p0.Sweep.Rays):Calls Tryz.prog 162 #[.agg #[.string p0.Sweep.Site.Name,iv p0.Sweep.Site.X,iv p0.Sweep.Site.Y,iv p0.Sweep.Site.Z,iv p0.Sweep.Site.Rose,iv p0.Sweep.Site.Gates,iv p0.Sweep.Site.Step,iv p0.Sweep.Site.Width,iv p0.Sweep.Tilt,iv p0.Sweep.Time,sv ad1 p0.Sweep.Rays cap2]] w0 (fun e w=>e=.returned (iv res)∧Ext w0 w):=by
 obtain ⟨hlow,hS⟩:=hm.init
 have hext:=Frz.ext_refl w0.heap.size μ
 rw [Bl] at h
 refine Ag Tryz.func162 rfl 6 [(0,.agg #[.string p0.Sweep.Site.Name,iv p0.Sweep.Site.X,iv p0.Sweep.Site.Y,iv p0.Sweep.Site.Z,iv p0.Sweep.Site.Rose,iv p0.Sweep.Site.Gates,iv p0.Sweep.Site.Step,iv p0.Sweep.Site.Width,iv p0.Sweep.Tilt,iv p0.Sweep.Time,sv ad1 p0.Sweep.Rays cap2])] rfl rfl kr fun a w hw hF=>?_
 replace hS:=hS.cast hw
 clear hw
 refine esr ?_
 refine SK.wi (J6 (t:=156) (fun b5=>[(1,pb b5)]) (.agg #[.string p0.Sweep.Site.Name,iv p0.Sweep.Site.X,iv p0.Sweep.Site.Y,iv p0.Sweep.Site.Z,iv p0.Sweep.Site.Rose,iv p0.Sweep.Site.Gates,iv p0.Sweep.Site.Step,iv p0.Sweep.Site.Width,iv p0.Sweep.Tilt,iv p0.Sweep.Time,sv ad1 p0.Sweep.Rays cap2]) #[.string p0.Sweep.Site.Name,iv p0.Sweep.Site.X,iv p0.Sweep.Site.Y,iv p0.Sweep.Site.Z,iv p0.Sweep.Site.Rose,iv p0.Sweep.Site.Gates,iv p0.Sweep.Site.Step,iv p0.Sweep.Site.Width,iv p0.Sweep.Tilt,iv p0.Sweep.Time,sv ad1 p0.Sweep.Rays cap2] hF hS kr ⟨kr⟩ kr (fun _=>⟨kr⟩) fun b5 w a hF hS=>?_)
 refine rn 1 2 [(1,pb b5)] hF fun a hF=>?_
 refine wfn rfl ?_
 refine esr ?_
 obtain ⟨y6,hy6,h⟩:=A1 h
 refine rX 4 4 [(2,iv y6)] hF (oN 41 0 0 11 hS.e rfl<|oC (fun w2 hd=>Qj F p0.Sweep _ hy6 _ w2 (A5 w2) (hA4.mono Rp87.mono (FrzAt.le_mem ((hS.later hd).frz (i:=1) rfl hlow))))<|A9) fun a w hF hx=>?_
 replace hS:=hS.later hx
 refine wfn rfl ?_
 refine wpIn_ret (Ad [.tmp 2] [iv y6] hF rfl ⟨rfl,trivial⟩ ?_)
 obtain rfl:=Ao h
 exact ⟨rfl,hS.ext⟩
theorem Kn (F:Nat) (p0:volume_field) (res:Int) (h:B0 F p0=some res) (μ:Frz) (w0:World) (hm:FrzAt μ w0) {ad1:Option Addr} {cap2:Nat} (hA3:ArrM μ 2 api_Span.cells ad1 cap2 p0.Field.Vals):Calls Tryz.prog 176 #[.agg #[.string p0.key,iv p0.time,iv p0.Field.Grid.X,iv p0.Field.Grid.Y,iv p0.Field.Grid.Size,iv p0.Field.Grid.Wide,iv p0.Field.Grid.High,sv ad1 p0.Field.Vals cap2]] w0 (fun e w=>e=.returned (iv res)∧Ext w0 w):=by
 obtain ⟨hlow,hS⟩:=hm.init
 have hext:=Frz.ext_refl w0.heap.size μ
 rw [B0] at h
 refine Ag Tryz.func176 rfl 20 [(0,.agg #[.string p0.key,iv p0.time,iv p0.Field.Grid.X,iv p0.Field.Grid.Y,iv p0.Field.Grid.Size,iv p0.Field.Grid.Wide,iv p0.Field.Grid.High,sv ad1 p0.Field.Vals cap2])] rfl rfl kr fun a w hw hF=>?_
 replace hS:=hS.cast hw
 clear hw
 refine esr ?_
 refine SK.wi (J6 (t:=158) (fun b4=>[(1,pb b4)]) (.agg #[.string p0.key,iv p0.time,iv p0.Field.Grid.X,iv p0.Field.Grid.Y,iv p0.Field.Grid.Size,iv p0.Field.Grid.Wide,iv p0.Field.Grid.High,sv ad1 p0.Field.Vals cap2]) #[.string p0.key,iv p0.time,iv p0.Field.Grid.X,iv p0.Field.Grid.Y,iv p0.Field.Grid.Size,iv p0.Field.Grid.Wide,iv p0.Field.Grid.High,sv ad1 p0.Field.Vals cap2] hF hS kr ⟨kr⟩ kr (fun _=>⟨kr⟩) fun b4 w a hF hS=>?_)
 refine rn 1 2 [(1,pb b4)] hF fun a hF=>?_
 refine wfn rfl ?_
 refine Ar ?_
 refine wpIn_block ?_
 refine esr ?_
 obtain ⟨y5,hy5,h⟩:=A1 h
 refine qx 5 5 [(3,.bool (!y5))] hF (oL 9 0 0 hS.e rfl rfl<|oC (fun w2 hd=>Rj F p0.key _ hy5 _ w2 (A5 w2))<|A9) fun a w hF hx=>?_
 replace hS:=hS.later hx
 refine wfn rfl ?_
 refine Aj hF rfl (fun hc=>?_) (fun hc=>?_)
 ·replace h:=Af h hc
  refine rnB [(2,iv 10)] hF fun a hF=>?_
  refine wpIn_ret (Ai<|A6<|Ad [.tmp 2] [iv 10] hF rfl ⟨rfl,trivial⟩ ?_)
  obtain rfl:=Ao h
  exact ⟨rfl,hS.ext⟩
 ·replace h:=Ae h hc
  refine qoB [(8,.bool (bif (decide (p0.time<0)) then true else (decide (p0.time>4294967296))))] hF (oL 3 0 1 hS.i rfl rfl<|oX (.run [⟨12,false,(decide (p0.time<0))⟩] (Instr.loadAt 3 (.pointer (some ⟨b4,1,none⟩))) (iv p0.time)) (ob1 kr (fun _ hd=>(hS.at_ hd).cell (i:=0) (j:=1) rfl rfl))<|A9) fun a hF=>?_
  refine Aj hF rfl (fun hc=>?_) (fun hc=>?_)
  ·replace h:=Af h hc
   refine rnB [(2,iv 3)] hF fun a hF=>?_
   refine wpIn_ret (Ai<|A6<|Ad [.tmp 2] [iv 3] hF rfl ⟨rfl,trivial⟩ ?_)
   obtain rfl:=Ao h
   exact ⟨rfl,hS.ext⟩
  ·replace h:=Ae h hc
   refine wpIn_skip (Ab<|A0<|?_)
   refine esr ?_
   obtain ⟨y6,hy6,h⟩:=A1 h
   refine rX 4 4 [(2,iv y6)] hF (oN 46 0 2 6 hS.e rfl<|oC (fun w2 hd=>Qv F p0.Field _ hy6 _ w2 (A5 w2) (hA3.mono (FrzAt.le_mem ((hS.later hd).frz (i:=1) rfl hlow))))<|A9) fun a w hF hx=>?_
   replace hS:=hS.later hx
   refine wfn rfl ?_
   refine wpIn_ret (Ad [.tmp 2] [iv y6] hF rfl ⟨rfl,trivial⟩ ?_)
   obtain rfl:=Ao h
   exact ⟨rfl,hS.ext⟩
theorem Js (F:Nat) (p0:volume_writer) (p1:(List api_Echo)) (p2:api_Echo) (res:volume_writer) (h:Bv F p0 p1 p2=some res) (μ:Frz) (w0 w1:World) (T_:List Res) (hlow:B4 w0 μ) {cb0:Nat} {ad1:Option Addr} {cap2:Nat} {ad3:Option Addr} {cap4:Nat} (hA5:ArrM μ 14 api_Echo.cells ad3 cap4 p1) (hS:St w0 (fz w0 μ::blk cb0 138 #[sv ad1 p0.b cap2]::arrT 5 1 (fK .u8) ad1 p0.b.length cap2 p0.b::T_) w1):Bj Tryz.prog 169 #[pb cb0,sv ad3 p1 cap4,p2.ag,.func (.func 170) #[pb cb0] #[]] w1 (fun e w=>∃(ν_:Frz) (b1:Option Addr) (b3:Nat),μ.ext w0.heap.size ν_∧B4 w0 ν_∧e=(.tuple #[])∧St w0 (fz w0 ν_::blk cb0 138 #[sv b1 res.b b3]::arrT 5 1 (fK .u8) b1 res.b.length b3 res.b::T_) w):=by
 rw [Bv] at h
 have hext:=Frz.ext_refl w0.heap.size μ
 refine Ag Tryz.func169 rfl 44 [(0,pb cb0),(1,sv ad3 p1 cap4),(2,p2.ag),(3,.func (.func 170) #[pb cb0] #[])] rfl rfl kr fun a w hw hF=>?_
 replace hS:=hS.cast hw
 clear hw
 refine esr ?_
 refine SK.wi (qB 149 (p2.ag) p2.ar (fun b6=>[(6,pb b6)]) hF hS fun b6 w a hF hS=>?_)
 refine wfn rfl ?_
 refine wpIn_block ?_
 have b4:=Frz.le_refl μ
 refine Ci (fun n_ a w=>∃(a7:Int) (a8:Int) (a9:Int) (aA:Int) (aB:Int) (aC:Int) (aD:Int) (aE:Int) (aF:Int) (aG:Int) (aH:Int) (aI:Int) (aJ:Int) (aK:Int) (a6:(List Int)) (a4:(List api_Echo)) (ν120:Frz) (aO:Option Addr) (aP:Nat) (a3:Option Addr) (a0:Nat),Fr 44 [] [(0,pb cb0),(1,sv a3 a4 a0),(3,.func (.func 170) #[pb cb0] #[]),(6,pb b6)] a∧St w0 (arrT 5 1 (fK .u8) aO a6.length aP a6::blk b6 149 #[iv a7,iv a8,iv aD,iv aE,iv aF,iv aG,iv aH,iv aI,iv aJ,iv aK,iv a9,iv aA,iv aB,iv aC]::fz w0 ν120::blk cb0 138 #[sv aO a6 aP]::T_) w∧(ArrM ν120 14 api_Echo.cells a3 a0 a4)∧(μ.le ν120)∧(μ.ext w0.heap.size ν120)∧(B4 w0 ν120)∧B1 F n_ a7 a8 a9 aA aB aC aD aE aF aG aH aI aJ aK a6 a4=some res) F ⟨p2.Kind,p2.Power.Lo,p2.Match.Lo,p2.Match.Hi,p2.Turn.Lo,p2.Turn.Hi,p2.Power.Hi,p2.Steps.1.Lo,p2.Steps.1.Hi,p2.Steps.2.Lo,p2.Steps.2.Hi,p2.Spread,p2.Ratio.Lo,p2.Ratio.Hi,p0.b,p1,μ,ad1,cap2,ad3,cap4,hF.sub kr,hS.s3,hA5,b4,hext,hlow,h⟩ ?_
 clear b4
 rintro nk1 a w ⟨a7,a8,a9,aA,aB,aC,aD,aE,aF,aG,aH,aI,aJ,aK,a6,a4,ν120,aO,aP,a3,a0,hF,hS,aM,aN,hext,hlow,h⟩
 rcases nk1 with _|nk1
 ·cases (show (none:Option volume_writer)=some res from h)
 replace hA5:=hA5.mono aN
 obtain ⟨k1,hk1⟩:∃k,k=B1 F nk1:=⟨_,rfl⟩
 replace h:Bm F k1 a7 a8 a9 aA aB aC aD aE aF aG aH aI aJ aK a6 a4=some res:=by rw [hk1];exact h
 rw [Bm] at h
 refine Ar ?_
 refine qnB [(11,.bool (decide ((ln a4)>0)))] hF fun a hF=>?_
 refine Aj hF rfl (fun hc=>?_) (fun hc=>?_)
 ·replace h:=Af h hc
  refine wpIn_skip (A0 ?_)
  refine wpIn_block ?_
  refine qnB [(8,iv 0)] hF fun a hF=>?_
  refine D9 (fun a w=>∃(a1:Int),Fr 44 [] [(0,pb cb0),(1,sv a3 a4 a0),(3,.func (.func 170) #[pb cb0] #[]),(6,pb b6),(8,iv a1)] a∧St w0 (arrT 5 1 (fK .u8) aO a6.length aP a6::blk b6 149 #[iv a7,iv a8,iv aD,iv aE,iv aF,iv aG,iv aH,iv aI,iv aJ,iv aK,iv a9,iv aA,iv aB,iv aC]::fz w0 ν120::blk cb0 138 #[sv aO a6 aP]::T_) w∧Bn F a7 a8 a9 aA aB aC aD aE aF aG aH aI aJ aK a6 a4 k1 a1=some res) ?_ ?_
  ·skip
   refine wpIn_block ?_
   refine Ci (fun n_ a w=>∃(aL:Int),Fr 44 [] [(0,pb cb0),(1,sv a3 a4 a0),(3,.func (.func 170) #[pb cb0] #[]),(6,pb b6),(8,iv aL)] a∧St w0 (arrT 5 1 (fK .u8) aO a6.length aP a6::blk b6 149 #[iv a7,iv a8,iv aD,iv aE,iv aF,iv aG,iv aH,iv aI,iv aJ,iv aK,iv a9,iv aA,iv aB,iv aC]::fz w0 ν120::blk cb0 138 #[sv aO a6 aP]::T_) w∧B9 F a7 a8 a9 aA aB aC aD aE aF aG aH aI aJ aK a6 a4 k1 n_ aL=some res) F ⟨0,hF.sub kr,hS,h⟩ ?_
   rintro nk3 a w ⟨aL,hF,hS,h⟩
   rcases nk3 with _|nk3
   ·cases (show (none:Option volume_writer)=some res from h)
   obtain ⟨k3,hk3⟩:∃k,k=B9 F a7 a8 a9 aA aB aC aD aE aF aG aH aI aJ aK a6 a4 k1 nk3:=⟨_,rfl⟩
   replace h:Cf F a7 a8 a9 aA aB aC aD aE aF aG aH aI aJ aK a6 a4 k1 k3 aL=some res:=by rw [hk3];exact h
   rw [Cf] at h
   refine Ar ?_
   refine Ar ?_
   obtain ⟨a2,b9,h⟩:=A1 h
   refine qD 12 [(23,.bool (bif (decide (aL<(ln a4))) then (((a2.Kind:Int)==a7)&&((((a2.Power.Lo:Int)==a8)&&(((a2.Power.Hi:Int)==aD)&&true))&&(((((a2.Steps.1.Lo:Int)==aE)&&(((a2.Steps.1.Hi:Int)==aF)&&true))&&((((a2.Steps.2.Lo:Int)==aG)&&(((a2.Steps.2.Hi:Int)==aH)&&true))&&true))&&(((a2.Spread:Int)==aI)&&((((a2.Ratio.Lo:Int)==aJ)&&(((a2.Ratio.Hi:Int)==aK)&&true))&&((((a2.Match.Lo:Int)==a9)&&(((a2.Match.Hi:Int)==aA)&&true))&&((((a2.Turn.Lo:Int)==aB)&&(((a2.Turn.Hi:Int)==aC)&&true))&&true))))))) else false))] hF (oX (.run [⟨16,true,(decide (aL<(ln a4)))⟩] (Instr.indexAt 87 (sv a3 a4 a0) (iv aL)) (.pointer (some (Bc a3 aL 14)))) (Gj (aM _ (hS.frz (i:=2) rfl hlow)) kr (fun hk=>Cx b9 hk))<|oX (.run [⟨16,true,(decide (aL<(ln a4)))⟩] (Instr.loadAt 149 (.pointer (some (Bc a3 aL 14)))) (a2.ag)) (Nx (m:=14) (i:=aL) (us:=a2.cells) 0 api_Echo.cells_len (fun _ hd=>(aM _ ((hS.later hd).frz (i:=2) rfl hlow))) kr (fun hk=>Cx b9 hk) ⟨rfl,rfl⟩)<|oX (.run [⟨16,true,(decide (aL<(ln a4)))⟩] (Instr.loadAt 149 (pb b6)) (.agg #[iv a7,iv a8,iv aD,iv aE,iv aF,iv aG,iv aH,iv aI,iv aJ,iv aK,iv a9,iv aA,iv aB,iv aC])) (obN (us:=[iv a7,iv a8,iv aD,iv aE,iv aF,iv aG,iv aH,iv aI,iv aJ,iv aK,iv a9,iv aA,iv aB,iv aC]) kr (fun _ hd=>((hS.later hd).blk (i:=1) rfl).cells rfl))<|oX (.run [⟨16,true,(decide (aL<(ln a4)))⟩] (eqS .eql 149 a2.ar #[iv a7,iv a8,iv aD,iv aE,iv aF,iv aG,iv aH,iv aI,iv aJ,iv aK,iv a9,iv aA,iv aB,iv aC]) (.bool (((a2.Kind:Int)==a7)&&((((a2.Power.Lo:Int)==a8)&&(((a2.Power.Hi:Int)==aD)&&true))&&(((((a2.Steps.1.Lo:Int)==aE)&&(((a2.Steps.1.Hi:Int)==aF)&&true))&&((((a2.Steps.2.Lo:Int)==aG)&&(((a2.Steps.2.Hi:Int)==aH)&&true))&&true))&&(((a2.Spread:Int)==aI)&&((((a2.Ratio.Lo:Int)==aJ)&&(((a2.Ratio.Hi:Int)==aK)&&true))&&((((a2.Match.Lo:Int)==a9)&&(((a2.Match.Hi:Int)==aA)&&true))&&((((a2.Turn.Lo:Int)==aB)&&(((a2.Turn.Hi:Int)==aC)&&true))&&true))))))))) (Lf kr kr)<|A9) fun a w hF hx=>?_
   replace hS:=hS.later hx
   refine wfn rfl ?_
   refine Aj hF rfl (fun hc=>?_) (fun hc=>?_)
   ·replace h:=Af h hc
    refine wpIn_skip (A0 ?_)
    refine wpIn_block ?_
    refine WI.region ?_
    obtain ⟨bA,bD,h⟩:=A1 h
    refine ro 3 3 [(0,pb cb0),(1,sv a3 a4 a0),(3,.func (.func 170) #[pb cb0] #[]),(6,pb b6),(8,iv bA)] hF (oA 3 bD<|A9) fun a hF=>?_
    refine WI.fin rfl (Ab<|A0<|?_)
    rw [hk3] at h
    exact ⟨nk3,Nat.lt_succ_self _,bA,hF.sub kr,hS,h⟩
   ·replace h:=Ae h hc
    refine wpIn_exit (Aa<|Aa<|Av<|A0 ?_)
    exact ⟨aL,hF.sub kr,hS,h⟩
  rintro a w ⟨a1,hF,hS,h⟩
  rw [Bn] at h
  refine esr ?_
  refine qn 2 2 [(26,pb cb0),(27,iv a1)] hF fun a hF=>?_
  refine SK.wi (Fe (e:=3) (sz:=1) (f:=fI) (t:=69) (len:=1) (fun b2=>[(0,pb cb0),(1,sv a3 a4 a0),(3,.func (.func 170) #[pb cb0] #[]),(6,pb b6),(8,iv a1),(26,pb cb0),(28,sb b2 1)]) #[(0,iv a1)] #[iv a1] ([a1]) hF hS kr ⟨kr⟩ kr Fu rfl rfl kr (fun _=>⟨kr⟩) fun b2 w a hF hS=>?_)
  obtain ⟨ν155,aW,hlow,hS,bG⟩:=hS.freeze (i:=3) (j:=0) rfl rfl (by decide) hlow
  replace hA5:=hA5.mono aW.1
  replace aM:=aM.mono aW.1
  replace aN:=Frz.le_trans aN aW.1
  replace hext:=Frz.ext_trans hext aW
  have aT:=ArrM.of_arr bG
  obtain ⟨aX,bE,h⟩:=A1 h
  replace hS:=hS.s3.s3
  refine SK.wi (rR (fun bH=>[(0,pb cb0),(1,sv a3 a4 a0),(3,.func (.func 170) #[pb cb0] #[]),(6,pb b6),(8,iv a1)]) hF (As F _ _ _ bE ν155 w0 w _ hlow aT hS) ?_)
  rintro bH w a ⟨ν160,aY,aZ,aU,hlow,rfl,hS⟩ hF
  replace hext:=Frz.ext_trans hext aU
  replace hA5:=hA5.mono aU.1
  replace aM:=aM.mono aU.1
  replace aT:=aT.mono aU.1
  replace aN:=Frz.le_trans aN aU.1
  refine wfn rfl ?_
  refine esr ?_
  obtain ⟨aS,b5,h⟩:=A1 h
  have aQ:ArrM ν160 14 api_Echo.cells (Aw a3 a0 a1.toNat 14) (a0-a1.toNat) aS:=fun w_ hw_=>(aM w_ hw_).cutD api_Echo.cells_len b5
  refine ro 4 4 [(0,pb cb0),(1,.slice (Aw a3 a0 a1.toNat 14) aS.length (a0-a1.toNat)),(3,.func (.func 170) #[pb cb0] #[]),(6,pb b6)] hF (oX (.run [] (Instr.sliceAt 87 (sv a3 a4 a0) (some (iv a1)) none none) (.slice (Aw a3 a0 a1.toNat 14) aS.length (a0-a1.toNat))) (N5 kr (aM _ (hS.frz (i:=0) rfl hlow)) (fun _=>b5))<|A9) fun a hF=>?_
  refine wfn rfl ?_
  refine qnB [(35,.bool (decide ((ln aS)>0)))] hF fun a hF=>?_
  refine Aj hF rfl (fun hc=>?_) (fun hc=>?_)
  ·replace h:=Af h hc
   refine Ar ?_
   obtain ⟨a5,b8,h⟩:=A1 h
   obtain ⟨aV,b7,h⟩:=A1 h
   refine Bt 7 [5] _ (D:=fun w=>St w0 [blk cb0 138 #[sv aY aX.b aZ],arrT 5 1 (fK .u8) aY aX.b.length aZ aX.b] w∧FrzAt ν160 w) kr kr hF.size (fun w hx=>?_) (fun _ _ h=>h)
   replace hS:=hS.later hx
   refine ⟨⟨St.pick [1,2] (by decide) hS,hS.frz (i:=0) rfl hlow⟩,?_⟩
   have bK:=Frz.le_refl ν160
   have b0:ArrM ν160 14 api_Echo.cells (Aw (Aw a3 a0 a1.toNat 14) (a0-a1.toNat) (1:Int).toNat 14) ((a0-a1.toNat)-(1:Int).toNat) aV:=fun w_ hw_=>(aQ w_ hw_).cutD api_Echo.cells_len b7
   refine WT.s [0,1,2,3,4] [5] kr kr ?_
   refine qC 5 [(38,a5.ag),(40,.slice (Aw (Aw a3 a0 a1.toNat 14) (a0-a1.toNat) (1:Int).toNat 14) aV.length ((a0-a1.toNat)-(1:Int).toNat))] hF (oI 87 (aQ _ (hS.frz (i:=0) rfl hlow)) b8<|oG 149 0 14 api_Echo.cells_len (fun _ hd=>(aQ _ hd.2)) b8<|oX (.run [] (Instr.sliceAt 87 (.slice (Aw a3 a0 a1.toNat 14) aS.length (a0-a1.toNat)) (some (iv 1)) none none) (.slice (Aw (Aw a3 a0 a1.toNat 14) (a0-a1.toNat) (1:Int).toNat 14) aV.length ((a0-a1.toNat)-(1:Int).toNat))) (N5 kr (aQ _ (hS.frz (i:=0) rfl hlow)) (fun _=>b7))<|A9) fun a hF=>?_
   refine WRun.fin ?_
   refine all_cons ?_ (At)
   refine qS 149 3 0 (a5.ag) a5.ar hF hS rfl fun w a hF hS=>⟨⟨St.pick [1,2] (by decide) hS,(hS.frz (i:=0) rfl hlow)⟩,?_⟩
   refine WT.z [6] kr ?_
   refine rC 1 [(0,pb cb0),(1,.slice (Aw (Aw a3 a0 a1.toNat 14) (a0-a1.toNat) (1:Int).toNat 14) aV.length ((a0-a1.toNat)-(1:Int).toNat)),(3,.func (.func 170) #[pb cb0] #[]),(6,pb b6)] hF A9 fun a hF=>?_
   refine WRun.fin ?_
   refine wfn rfl ?_
   refine WI.region ?_
   refine qo 2 2 [(41,.func (.func 170) #[pb cb0] #[]),(42,a5.ag)] hF (oN 149 3 0 14 hS.i rfl<|A9) fun a hF=>?_
   obtain ⟨bJ,bF,h⟩:=A1 h
   refine SK.wi (qR (fun bI=>[]) hF (P1 F _ _ _ bF ν160 w0 w _ hlow  hS) ?_)
   rintro bI w a ⟨ν174,bB,bC,aR,hlow,rfl,hS⟩ hF
   replace hext:=Frz.ext_trans hext aR
   replace hA5:=hA5.mono aR.1
   replace aM:=aM.mono aR.1
   replace aT:=aT.mono aR.1
   replace aQ:=aQ.mono aR.1
   replace b0:=b0.mono aR.1
   replace aN:=Frz.le_trans aN aR.1
   refine WI.fin rfl (Ab<|A0<|?_)
   rw [hk1] at h
   exact ⟨nk1,Nat.lt_succ_self _,a5.Kind,a5.Power.Lo,a5.Match.Lo,a5.Match.Hi,a5.Turn.Lo,a5.Turn.Hi,a5.Power.Hi,a5.Steps.1.Lo,a5.Steps.1.Hi,a5.Steps.2.Lo,a5.Steps.2.Hi,a5.Spread,a5.Ratio.Lo,a5.Ratio.Hi,bJ.b,aV,ν174,bB,bC,(Aw (Aw a3 a0 a1.toNat 14) (a0-a1.toNat) (1:Int).toNat 14),((a0-a1.toNat)-(1:Int).toNat),hF.sub kr,hS.s3.s3,b0,aN,hext,hlow,h⟩
  ·replace h:=Ae h hc
   refine wpIn_skip (Ab<|A0<|?_)
   rw [hk1] at h
   exact ⟨nk1,Nat.lt_succ_self _,a7,a8,a9,aA,aB,aC,aD,aE,aF,aG,aH,aI,aJ,aK,aX.b,aS,ν160,aY,aZ,(Aw a3 a0 a1.toNat 14),(a0-a1.toNat),hF.sub kr,hS.s3.s3,aQ,aN,hext,hlow,h⟩
 ·replace h:=Ae h hc
  refine wpIn_exit (Aa<|Aa<|Av<|?_)
  refine Hb hF rfl ?_
  obtain rfl:=Ao h
  replace hS:=hS.d1.s2.s2
  exact ⟨_,rfl,ν120,aO,aP,hext,hlow,rfl,hS⟩
theorem Pf (F:Nat) (p0:volume_sweep) (p1:volume_writer) (res:volume_writer) (h:F7 F p0 p1=some res) (μ:Frz) (w0 w1:World) (T_:List Res) (hlow:B4 w0 μ) {ad1:Option Addr} {cap2:Nat} {css3:List (List Value)} {cb1:Nat} {ad5:Option Addr} {cap6:Nat} (hA4:ArrQ μ 1 Rp87 ad1 cap2 css3 p0.Sweep.Rays) (hS:St w0 (fz w0 μ::blk cb1 138 #[sv ad5 p1.b cap6]::arrT 5 1 (fK .u8) ad5 p1.b.length cap6 p1.b::T_) w1):Bj Tryz.prog 166 #[.agg #[.string p0.Sweep.Site.Name,iv p0.Sweep.Site.X,iv p0.Sweep.Site.Y,iv p0.Sweep.Site.Z,iv p0.Sweep.Site.Rose,iv p0.Sweep.Site.Gates,iv p0.Sweep.Site.Step,iv p0.Sweep.Site.Width,iv p0.Sweep.Tilt,iv p0.Sweep.Time,sv ad1 p0.Sweep.Rays cap2],pb cb1] w1 (fun e w=>∃(ν_:Frz) (aR:Option Addr) (aV:Nat),μ.ext w0.heap.size ν_∧B4 w0 ν_∧e=(.tuple #[])∧St w0 (fz w0 ν_::blk cb1 138 #[sv aR res.b aV]::arrT 5 1 (fK .u8) aR res.b.length aV res.b::T_) w):=by
 rw [F7] at h
 have hext:=Frz.ext_refl w0.heap.size μ
 refine Ag Tryz.func166 rfl 74 [(0,.agg #[.string p0.Sweep.Site.Name,iv p0.Sweep.Site.X,iv p0.Sweep.Site.Y,iv p0.Sweep.Site.Z,iv p0.Sweep.Site.Rose,iv p0.Sweep.Site.Gates,iv p0.Sweep.Site.Step,iv p0.Sweep.Site.Width,iv p0.Sweep.Tilt,iv p0.Sweep.Time,sv ad1 p0.Sweep.Rays cap2]),(1,pb cb1)] rfl rfl kr fun a w hw hF=>?_
 replace hS:=hS.cast hw
 clear hw
 refine esr ?_
 refine SK.wi (qB 156 (.agg #[.string p0.Sweep.Site.Name,iv p0.Sweep.Site.X,iv p0.Sweep.Site.Y,iv p0.Sweep.Site.Z,iv p0.Sweep.Site.Rose,iv p0.Sweep.Site.Gates,iv p0.Sweep.Site.Step,iv p0.Sweep.Site.Width,iv p0.Sweep.Tilt,iv p0.Sweep.Time,sv ad1 p0.Sweep.Rays cap2]) #[.string p0.Sweep.Site.Name,iv p0.Sweep.Site.X,iv p0.Sweep.Site.Y,iv p0.Sweep.Site.Z,iv p0.Sweep.Site.Rose,iv p0.Sweep.Site.Gates,iv p0.Sweep.Site.Step,iv p0.Sweep.Site.Width,iv p0.Sweep.Tilt,iv p0.Sweep.Time,sv ad1 p0.Sweep.Rays cap2] (fun b7=>[(2,pb b7)]) hF hS fun b7 w a hF hS=>?_)
 refine wfn rfl ?_
 refine esr ?_
 refine qn 1 1 [(7,pb cb1)] hF fun a hF=>?_
 refine SK.wi (Fe (e:=3) (sz:=1) (f:=fI) (t:=69) (len:=1) (fun b8=>[(1,pb cb1),(2,pb b7),(7,pb cb1),(8,sb b8 1)]) #[(0,iv 1)] #[iv 1] ([1]) hF hS kr ⟨kr⟩ kr Fu rfl rfl kr (fun _=>⟨kr⟩) fun b8 w a hF hS=>?_)
 obtain ⟨ν9,aX,hlow,hS,bD⟩:=hS.freeze (i:=2) (j:=0) rfl rfl (by decide) hlow
 replace hA4:=hA4.mono Rp87.mono aX.1
 replace hext:=Frz.ext_trans hext aX
 have a0:=ArrM.of_arr bD
 obtain ⟨bT,b6,h⟩:=A1 h
 replace hS:=hS.s3.s3.s3
 refine SK.wi (rR (fun bH=>[(1,pb cb1),(2,pb b7)]) hF (As F _ _ _ b6 ν9 w0 w _ hlow a0 hS) ?_)
 rintro bH w a ⟨ν14,bM,bP,aM,hlow,rfl,hS⟩ hF
 replace hext:=Frz.ext_trans hext aM
 replace hA4:=hA4.mono Rp87.mono aM.1
 replace a0:=a0.mono aM.1
 refine wfn rfl ?_
 refine esr ?_
 refine qo 5 5 [(10,pb cb1),(14,.string p0.Sweep.Site.Name)] hF (oL 9 3 0 hS.i rfl rfl<|A9) fun a hF=>?_
 obtain ⟨bU,b9,h⟩:=A1 h
 refine SK.wi (qR (fun bI=>[]) hF (Gn F _ _ _ b9 ν14 w0 w _ hlow  hS) ?_)
 rintro bI w a ⟨ν20,bN,bQ,aN,hlow,rfl,hS⟩ hF
 replace hext:=Frz.ext_trans hext aN
 replace hA4:=hA4.mono Rp87.mono aN.1
 replace a0:=a0.mono aN.1
 refine wfn rfl ?_
 refine esr ?_
 refine qo 9 9 [(16,pb cb1),(20,iv p0.Sweep.Site.X),(24,iv p0.Sweep.Site.Y)] hF (oL 3 3 1 hS.i rfl rfl<|oL 3 3 2 hS.i rfl rfl<|A9) fun a hF=>?_
 refine SK.wi (Fe (e:=3) (sz:=1) (f:=fI) (t:=69) (len:=2) (fun aS=>[(1,pb cb1),(2,pb b7),(16,pb cb1),(25,sb aS 2)]) #[(0,iv p0.Sweep.Site.X),(1,iv p0.Sweep.Site.Y)] #[iv p0.Sweep.Site.X,iv p0.Sweep.Site.Y] ([p0.Sweep.Site.X,p0.Sweep.Site.Y]) hF hS kr ⟨kr⟩ kr Fu rfl rfl kr (fun _=>⟨kr⟩) fun aS w a hF hS=>?_)
 obtain ⟨ν26,aO,hlow,hS,bE⟩:=hS.freeze (i:=1) (j:=0) rfl rfl (by decide) hlow
 replace hA4:=hA4.mono Rp87.mono aO.1
 replace a0:=a0.mono aO.1
 replace hext:=Frz.ext_trans hext aO
 have a1:=ArrM.of_arr bE
 obtain ⟨bV,bA,h⟩:=A1 h
 refine SK.wi (rR (fun bJ=>[(1,pb cb1),(2,pb b7)]) hF (Ff F _ _ _ bA ν26 w0 w _ hlow a1 hS) ?_)
 rintro bJ w a ⟨ν31,bO,bR,aI,hlow,rfl,hS⟩ hF
 replace hext:=Frz.ext_trans hext aI
 replace hA4:=hA4.mono Rp87.mono aI.1
 replace a0:=a0.mono aI.1
 replace a1:=a1.mono aI.1
 refine wfn rfl ?_
 refine esr ?_
 refine qo 27 27 [(27,pb cb1),(31,iv p0.Sweep.Site.Z),(35,iv p0.Sweep.Site.Rose),(39,iv p0.Sweep.Site.Gates),(43,iv p0.Sweep.Site.Step),(47,iv p0.Sweep.Site.Width),(50,iv p0.Sweep.Tilt),(53,iv p0.Sweep.Time)] hF (oL 3 3 3 hS.i rfl rfl<|oL 3 3 4 hS.i rfl rfl<|oL 3 3 5 hS.i rfl rfl<|oL 3 3 6 hS.i rfl rfl<|oL 3 3 7 hS.i rfl rfl<|oL 3 3 8 hS.i rfl rfl<|oL 3 3 9 hS.i rfl rfl<|A9) fun a hF=>?_
 refine SK.wi (Fe (e:=3) (sz:=1) (f:=fI) (t:=69) (len:=7) (fun aT=>[(1,pb cb1),(2,pb b7),(27,pb cb1),(54,sb aT 7)]) #[(0,iv p0.Sweep.Site.Z),(1,iv p0.Sweep.Site.Rose),(2,iv p0.Sweep.Site.Gates),(3,iv p0.Sweep.Site.Step),(4,iv p0.Sweep.Site.Width),(5,iv p0.Sweep.Tilt),(6,iv p0.Sweep.Time)] #[iv p0.Sweep.Site.Z,iv p0.Sweep.Site.Rose,iv p0.Sweep.Site.Gates,iv p0.Sweep.Site.Step,iv p0.Sweep.Site.Width,iv p0.Sweep.Tilt,iv p0.Sweep.Time] ([p0.Sweep.Site.Z,p0.Sweep.Site.Rose,p0.Sweep.Site.Gates,p0.Sweep.Site.Step,p0.Sweep.Site.Width,p0.Sweep.Tilt,p0.Sweep.Time]) hF hS kr ⟨kr⟩ kr Fu rfl rfl kr (fun _=>⟨kr⟩) fun aT w a hF hS=>?_)
 obtain ⟨ν37,aJ,hlow,hS,bF⟩:=hS.freeze (i:=1) (j:=0) rfl rfl (by decide) hlow
 replace hA4:=hA4.mono Rp87.mono aJ.1
 replace a0:=a0.mono aJ.1
 replace a1:=a1.mono aJ.1
 replace hext:=Frz.ext_trans hext aJ
 have a4:=ArrM.of_arr bF
 obtain ⟨a3,bB,h⟩:=A1 h
 refine SK.wi (rR (fun bK=>[(1,pb cb1),(2,pb b7)]) hF (As F _ _ _ bB ν37 w0 w _ hlow a4 hS) ?_)
 rintro bK w a ⟨ν42,aE,aG,aC,hlow,rfl,hS⟩ hF
 replace hext:=Frz.ext_trans hext aC
 replace hA4:=hA4.mono Rp87.mono aC.1
 replace a0:=a0.mono aC.1
 replace a1:=a1.mono aC.1
 replace a4:=a4.mono aC.1
 refine wfn rfl ?_
 refine qnB [(4,.slice none 0 0)] hF fun a hF=>?_
 refine D9 (fun a w=>∃(a9:(List api_Echo)) (aF:Option Addr) (aH:Nat),Fr 74 [] [(1,pb cb1),(4,sv aF a9 aH)] a∧St w0 (arr 149 14 api_Echo.cells aF a9.length aH a9::fz w0 ν42::blk cb1 138 #[sv aE a3.b aG]::arrT 5 1 (fK .u8) aE a3.b.length aG a3.b::blk b7 156 #[.string p0.Sweep.Site.Name,iv p0.Sweep.Site.X,iv p0.Sweep.Site.Y,iv p0.Sweep.Site.Z,iv p0.Sweep.Site.Rose,iv p0.Sweep.Site.Gates,iv p0.Sweep.Site.Step,iv p0.Sweep.Site.Width,iv p0.Sweep.Tilt,iv p0.Sweep.Time,sv ad1 p0.Sweep.Rays cap2]::T_) w∧Fc F a3 a9=some res) ?_ ?_
 ·skip
  refine qoB [(58,sv ad1 p0.Sweep.Rays cap2),(59,iv (ln p0.Sweep.Rays)),(60,iv 0)] hF (oL 39 3 10 hS.i rfl rfl<|A9) fun a hF=>?_
  refine wpIn_block ?_
  replace hS:=hS.nilarr 149 14 api_Echo.cells
  refine Ci (fun n_ a w=>∃(a2:(List api_Echo)) (a5:Int) (a6:Option Addr) (a7:Nat),Fr 74 [] [(1,pb cb1),(4,sv a6 a2 a7),(58,sv ad1 p0.Sweep.Rays cap2),(59,iv (ln p0.Sweep.Rays)),(60,iv a5)] a∧St w0 (arr 149 14 api_Echo.cells a6 a2.length a7 a2::fz w0 ν42::blk cb1 138 #[sv aE a3.b aG]::arrT 5 1 (fK .u8) aE a3.b.length aG a3.b::blk b7 156 #[.string p0.Sweep.Site.Name,iv p0.Sweep.Site.X,iv p0.Sweep.Site.Y,iv p0.Sweep.Site.Z,iv p0.Sweep.Site.Rose,iv p0.Sweep.Site.Gates,iv p0.Sweep.Site.Step,iv p0.Sweep.Site.Width,iv p0.Sweep.Tilt,iv p0.Sweep.Time,sv ad1 p0.Sweep.Rays cap2]::T_) w∧D7 F p0 a3 n_ a2 a5=some res) F ⟨[],0,none,0,hF.sub kr,hS,h⟩ ?_
  rintro nk2 a w ⟨a2,a5,a6,a7,hF,hS,h⟩
  rcases nk2 with _|nk2
  ·cases (show (none:Option volume_writer)=some res from h)
  obtain ⟨k2,hk2⟩:∃k,k=D7 F p0 a3 nk2:=⟨_,rfl⟩
  replace h:Fb F p0 a3 k2 a2 a5=some res:=by rw [hk2];exact h
  rw [Fb] at h
  refine qnB [(61,.bool (decide (a5<(ln p0.Sweep.Rays))))] hF fun a hF=>?_
  refine Ar ?_
  refine Aj hF rfl (fun hc=>?_) (fun hc=>?_)
  ·replace h:=Af h hc
   refine wpIn_skip (A0 ?_)
   refine Ar ?_
   refine wpIn_block ?_
   refine esr ?_
   obtain ⟨aP,b4,h⟩:=A1 h
   obtain ⟨bS,aW,b2⟩:=Bd hA4.2 b4
   obtain ⟨aQ,aU,rfl,b1⟩:=b2
   refine qo 3 3 [(6,sv aQ aP aU)] hF (oI 39 (hA4.at (hS.frz (i:=1) rfl hlow)) aW<|oE 87 0 (Bz 1) (fun _ hd=>(hA4.at ((hS.at_ hd).frz (i:=1) rfl hlow))) aW rfl<|A9) fun a hF=>?_
   refine wfn rfl ?_
   refine WI.region ?_
   refine qn 2 2 [(64,sv a6 a2 a7),(65,sv aQ aP aU)] hF fun a hF=>?_
   obtain ⟨aK,b3,h⟩:=A1 h
   refine SK.wi (Lq (t:=87) (ty:=87) (bytes:=112) (l:=a2) (l':=aP) (fun aA aB=>[(1,pb cb1),(4,sv a6 a2 a7),(58,sv ad1 p0.Sweep.Rays cap2),(59,iv (ln p0.Sweep.Rays)),(60,iv a5),(66,sv aA aK aB)]) 0 hF hS rfl kr ⟨kr⟩ kr (b1 _ (hS.frz (i:=1) rfl hlow)) (fun _ _=>rfl) b3 (fun _ _=>⟨kr⟩) fun aA aB w a hF hS=>?_)
   refine rn 1 4 [(1,pb cb1),(4,sv aA aK aB),(58,sv ad1 p0.Sweep.Rays cap2),(59,iv (ln p0.Sweep.Rays)),(60,iv a5)] hF fun a hF=>?_
   refine WI.fin rfl (Ab<|A0<|?_)
   refine WI.region ?_
   obtain ⟨aY,b5,h⟩:=A1 h
   refine ro 2 2 [(1,pb cb1),(4,sv aA aK aB),(58,sv ad1 p0.Sweep.Rays cap2),(59,iv (ln p0.Sweep.Rays)),(60,iv aY)] hF (oA 3 b5<|A9) fun a hF=>?_
   refine wfn rfl ?_
   rw [hk2] at h
   exact ⟨nk2,Nat.lt_succ_self _,aK,aY,aA,aB,hF.sub kr,hS,h⟩
  ·replace h:=Ae h hc
   refine wpIn_exit (Aa<|Aa<|Av<|A0 ?_)
   exact ⟨a2,a6,a7,hF.sub kr,hS,h⟩
 rintro a w ⟨a9,aF,aH,hF,hS,h⟩
 rw [Fc] at h
 refine WI.region ?_
 refine rn 5 5 [(68,pb cb1),(69,sv aF a9 aH),(70,.agg #[iv 1,iv 0,iv 0,iv 0,iv 0,iv 0,iv 0,iv 0,iv 0,iv 0,iv 0,iv 0,iv 0,iv 0]),(72,.func (.func 170) #[pb cb1] #[])] hF fun a hF=>?_
 obtain ⟨ν92,aD,hlow,hS,bG⟩:=hS.freeze (i:=1) (j:=0) rfl rfl (by decide) hlow
 replace hA4:=hA4.mono Rp87.mono aD.1
 replace a0:=a0.mono aD.1
 replace a1:=a1.mono aD.1
 replace a4:=a4.mono aD.1
 replace hext:=Frz.ext_trans hext aD
 have aL:=ArrM.of_arr bG
 obtain ⟨bW,bC,h⟩:=A1 h
 refine SK.wi (rR (fun bL=>[]) hF (Js F _ _ _ _ bC ν92 w0 w _ hlow aL hS) ?_)
 rintro bL w a ⟨ν97,aZ,b0,a8,hlow,rfl,hS⟩ hF
 replace hext:=Frz.ext_trans hext a8
 replace hA4:=hA4.mono Rp87.mono a8.1
 replace a0:=a0.mono a8.1
 replace a1:=a1.mono a8.1
 replace a4:=a4.mono a8.1
 replace aL:=aL.mono a8.1
 refine WI.fin rfl ?_
 refine Hb hF rfl ?_
 obtain rfl:=Ao h
 replace hS:=hS.d3
 exact ⟨_,rfl,ν97,aZ,b0,hext,hlow,rfl,hS⟩
theorem Su (F:Nat) (p0:(List api_Echo)) (res:(List Int)) (h:Hw F p0=some res) (μ:Frz) (w0:World) (hm:FrzAt μ w0) {ad1:Option Addr} {cap2:Nat} (hA3:ArrM μ 14 api_Echo.cells ad1 cap2 p0):Bj Tryz.prog 107 #[sv ad1 p0 cap2] w0 (fun e w=>∃zad0 zcap0,e=(sv zad0 res zcap0)∧St w0 [arr 5 1 (fK .u8) zad0 res.length zcap0 res] w):=by
 obtain ⟨hlow,hS⟩:=hm.init
 have hext:=Frz.ext_refl w0.heap.size μ
 rw [Hw] at h
 refine Ag Tryz.func107 rfl 55 [(0,sv ad1 p0 cap2)] rfl rfl kr fun a w hw hF=>?_
 replace hS:=hS.cast hw
 clear hw
 refine qnB [] hF fun a hF=>?_
 refine qnB [(3,.slice none 0 0)] hF fun a hF=>?_
 refine esr ?_
 refine qn 1 1 [(7,.agg #[iv 1,iv 0,iv 0,iv 0,iv 0,iv 0,iv 0,iv 0,iv 0,iv 0,iv 0,iv 0,iv 0,iv 0])] hF fun a hF=>?_
 refine SK.wi (qA 149 #[iv 0,iv 0,iv 0,iv 0,iv 0,iv 0,iv 0,iv 0,iv 0,iv 0,iv 0,iv 0,iv 0,iv 0] (fun b4=>[(4,pb b4)]) hF hS fun b4 w a hF hS=>?_)
 refine SK.wi (qS 149 0 0 (.agg #[iv 1,iv 0,iv 0,iv 0,iv 0,iv 0,iv 0,iv 0,iv 0,iv 0,iv 0,iv 0,iv 0,iv 0]) #[iv 1,iv 0,iv 0,iv 0,iv 0,iv 0,iv 0,iv 0,iv 0,iv 0,iv 0,iv 0,iv 0,iv 0] hF hS rfl fun w a hF hS=>?_)
 refine wfn rfl ?_
 refine D9 (fun a w=>∃(aY:Int) (aZ:Int) (b0:Int) (b1:Int) (b2:Int) (b3:Int) (b5:Int) (b6:Int) (b7:Int) (b8:Int) (b9:Int) (bA:Int) (bB:Int) (bC:Int) (aM:(List Int)) (aR:Option Addr) (aT:Nat),Fr 55 [] [(3,sv aR aM aT)] a∧St w0 [arr 5 1 (fK .u8) aR aM.length aT aM,blk b4 149 #[iv aY,iv aZ,iv b5,iv b6,iv b7,iv b8,iv b9,iv bA,iv bB,iv bC,iv b0,iv b1,iv b2,iv b3],fz w0 μ] w∧Gx aY aZ b0 b1 b2 b3 b5 b6 b7 b8 b9 bA bB bC aM=some res) ?_ ?_
 ·skip
  refine qnB [(5,iv 0)] hF fun a hF=>?_
  refine wpIn_block ?_
  replace hS:=hS.nilarr 5 1 (fK .u8)
  refine Ci (fun n_ a w=>∃(a3:Int) (a4:Int) (a5:Int) (a6:Int) (a7:Int) (a8:Int) (a9:Int) (aA:Int) (aB:Int) (aC:Int) (aD:Int) (aE:Int) (aF:Int) (aG:Int) (a1:(List Int)) (aH:Int) (aI:Option Addr) (aJ:Nat),Fr 55 [] [(0,sv ad1 p0 cap2),(3,sv aI a1 aJ),(4,pb b4),(5,iv aH)] a∧St w0 [arr 5 1 (fK .u8) aI a1.length aJ a1,blk b4 149 #[iv a3,iv a4,iv a9,iv aA,iv aB,iv aC,iv aD,iv aE,iv aF,iv aG,iv a5,iv a6,iv a7,iv a8],fz w0 μ] w∧Em F p0 n_ a3 a4 a5 a6 a7 a8 a9 aA aB aC aD aE aF aG a1 aH=some res) F ⟨1,0,0,0,0,0,0,0,0,0,0,0,0,0,[],0,none,0,hF.sub kr,St.pick [0,1,2] (by decide) hS,h⟩ ?_
  rintro nk2 a w ⟨a3,a4,a5,a6,a7,a8,a9,aA,aB,aC,aD,aE,aF,aG,a1,aH,aI,aJ,hF,hS,h⟩
  rcases nk2 with _|nk2
  ·cases (show (none:Option (List Int))=some res from h)
  obtain ⟨k2,hk2⟩:∃k,k=Em F p0 nk2:=⟨_,rfl⟩
  replace h:Gw F p0 k2 a3 a4 a5 a6 a7 a8 a9 aA aB aC aD aE aF aG a1 aH=some res:=by rw [hk2];exact h
  rw [Gw] at h
  refine Ar ?_
  refine qnB [(11,.bool (decide (aH<(ln p0))))] hF fun a hF=>?_
  refine Aj hF rfl (fun hc=>?_) (fun hc=>?_)
  ·replace h:=Af h hc
   refine wpIn_skip (A0 ?_)
   refine wpIn_block ?_
   refine qnB [(6,iv 0)] hF fun a hF=>?_
   refine D9 (fun a w=>∃(aO:Int),Fr 55 [] [(0,sv ad1 p0 cap2),(3,sv aI a1 aJ),(4,pb b4),(5,iv aH),(6,iv aO)] a∧St w0 [arr 5 1 (fK .u8) aI a1.length aJ a1,blk b4 149 #[iv a3,iv a4,iv a9,iv aA,iv aB,iv aC,iv aD,iv aE,iv aF,iv aG,iv a5,iv a6,iv a7,iv a8],fz w0 μ] w∧Gy F p0 a3 a4 a5 a6 a7 a8 a9 aA aB aC aD aE aF aG a1 aH k2 aO=some res) ?_ ?_
   ·skip
    refine wpIn_block ?_
    refine Ci (fun n_ a w=>∃(aP:Int),Fr 55 [] [(0,sv ad1 p0 cap2),(3,sv aI a1 aJ),(4,pb b4),(5,iv aH),(6,iv aP)] a∧St w0 [arr 5 1 (fK .u8) aI a1.length aJ a1,blk b4 149 #[iv a3,iv a4,iv a9,iv aA,iv aB,iv aC,iv aD,iv aE,iv aF,iv aG,iv a5,iv a6,iv a7,iv a8],fz w0 μ] w∧Fi F p0 a3 a4 a5 a6 a7 a8 a9 aA aB aC aD aE aF aG a1 aH k2 n_ aP=some res) F ⟨0,hF.sub kr,St.pick [0,1,2] (by decide) hS,h⟩ ?_
    rintro nk4 a w ⟨aP,hF,hS,h⟩
    rcases nk4 with _|nk4
    ·cases (show (none:Option (List Int))=some res from h)
    obtain ⟨k4,hk4⟩:∃k,k=Fi F p0 a3 a4 a5 a6 a7 a8 a9 aA aB aC aD aE aF aG a1 aH k2 nk4:=⟨_,rfl⟩
    replace h:Jg F p0 a3 a4 a5 a6 a7 a8 a9 aA aB aC aD aE aF aG a1 aH k2 k4 aP=some res:=by rw [hk4];exact h
    rw [Jg] at h
    refine Ar ?_
    refine Ar ?_
    obtain ⟨aQ,bO,h⟩:=A1 h
    obtain ⟨aW,bP,h⟩:=A1 h
    obtain ⟨a0,bF,h⟩:=A1 h
    refine qD 16 [(27,.bool (bif (decide (aQ<(ln p0))) then (((a0.Kind:Int)==a3)&&((((a0.Power.Lo:Int)==a4)&&(((a0.Power.Hi:Int)==a9)&&true))&&(((((a0.Steps.1.Lo:Int)==aA)&&(((a0.Steps.1.Hi:Int)==aB)&&true))&&((((a0.Steps.2.Lo:Int)==aC)&&(((a0.Steps.2.Hi:Int)==aD)&&true))&&true))&&(((a0.Spread:Int)==aE)&&((((a0.Ratio.Lo:Int)==aF)&&(((a0.Ratio.Hi:Int)==aG)&&true))&&((((a0.Match.Lo:Int)==a5)&&(((a0.Match.Hi:Int)==a6)&&true))&&((((a0.Turn.Lo:Int)==a7)&&(((a0.Turn.Hi:Int)==a8)&&true))&&true))))))) else false))] hF (oA 3 bO<|oX (.run [⟨18,true,(decide (aQ<(ln p0)))⟩] (binOp .add 3 (iv aH) (iv aP)) (iv aW)) (R2 (fun hk=>Cx bP hk))<|oX (.run [⟨18,true,(decide (aQ<(ln p0)))⟩] (Instr.indexAt 87 (sv ad1 p0 cap2) (iv aW)) (.pointer (some (Bc ad1 aW 14)))) (Gj (hA3 _ (hS.frz (i:=2) rfl hlow)) kr (fun hk=>Cx bF hk))<|oX (.run [⟨18,true,(decide (aQ<(ln p0)))⟩] (Instr.loadAt 149 (.pointer (some (Bc ad1 aW 14)))) (a0.ag)) (Nx (m:=14) (i:=aW) (us:=a0.cells) 0 api_Echo.cells_len (fun _ hd=>(hA3 _ ((hS.later hd).frz (i:=2) rfl hlow))) kr (fun hk=>Cx bF hk) ⟨rfl,rfl⟩)<|oX (.run [⟨18,true,(decide (aQ<(ln p0)))⟩] (Instr.loadAt 149 (pb b4)) (.agg #[iv a3,iv a4,iv a9,iv aA,iv aB,iv aC,iv aD,iv aE,iv aF,iv aG,iv a5,iv a6,iv a7,iv a8])) (obN (us:=[iv a3,iv a4,iv a9,iv aA,iv aB,iv aC,iv aD,iv aE,iv aF,iv aG,iv a5,iv a6,iv a7,iv a8]) kr (fun _ hd=>((hS.later hd).blk (i:=1) rfl).cells rfl))<|oX (.run [⟨18,true,(decide (aQ<(ln p0)))⟩] (eqS .eql 149 a0.ar #[iv a3,iv a4,iv a9,iv aA,iv aB,iv aC,iv aD,iv aE,iv aF,iv aG,iv a5,iv a6,iv a7,iv a8]) (.bool (((a0.Kind:Int)==a3)&&((((a0.Power.Lo:Int)==a4)&&(((a0.Power.Hi:Int)==a9)&&true))&&(((((a0.Steps.1.Lo:Int)==aA)&&(((a0.Steps.1.Hi:Int)==aB)&&true))&&((((a0.Steps.2.Lo:Int)==aC)&&(((a0.Steps.2.Hi:Int)==aD)&&true))&&true))&&(((a0.Spread:Int)==aE)&&((((a0.Ratio.Lo:Int)==aF)&&(((a0.Ratio.Hi:Int)==aG)&&true))&&((((a0.Match.Lo:Int)==a5)&&(((a0.Match.Hi:Int)==a6)&&true))&&((((a0.Turn.Lo:Int)==a7)&&(((a0.Turn.Hi:Int)==a8)&&true))&&true))))))))) (Lf kr kr)<|A9) fun a w hF hx=>?_
    replace hS:=hS.later hx
    refine wfn rfl ?_
    refine Aj hF rfl (fun hc=>?_) (fun hc=>?_)
    ·replace h:=Af h hc
     refine wpIn_skip (A0 ?_)
     refine wpIn_block ?_
     refine WI.region ?_
     obtain ⟨bJ,bQ,h⟩:=A1 h
     refine ro 3 3 [(0,sv ad1 p0 cap2),(3,sv aI a1 aJ),(4,pb b4),(5,iv aH),(6,iv bJ)] hF (oA 3 bQ<|A9) fun a hF=>?_
     refine WI.fin rfl (Ab<|A0<|?_)
     rw [hk4] at h
     exact ⟨nk4,Nat.lt_succ_self _,bJ,hF.sub kr,St.pick [0,1,2] (by decide) hS,h⟩
    ·replace h:=Ae h hc
     refine wpIn_exit (Aa<|Aa<|Av<|A0 ?_)
     exact ⟨aP,hF.sub kr,St.pick [0,1,2] (by decide) hS,h⟩
   rintro a w ⟨aO,hF,hS,h⟩
   rw [Gy] at h
   refine esr ?_
   refine qn 2 2 [(30,sv aI a1 aJ),(31,iv aO)] hF fun a hF=>?_
   obtain ⟨bU,bR,h⟩:=A1 h
   refine SK.wi (qR (fun bG=>[(32,bG)]) hF (Au F _ _ bR (Ay w) w (A5 w)) ?_)
   rintro bG w a ⟨bW,bY,rfl,hQ⟩ hF
   replace hS:=hS.madeL hQ
   obtain ⟨aN,bK,h⟩:=A1 h
   refine SK.wi (Lq (t:=22) (ty:=22) (bytes:=1) (l:=a1) (l':=bU) (fun aK aL=>[(0,sv ad1 p0 cap2),(3,sv aI a1 aJ),(4,pb b4),(5,iv aH),(6,iv aO),(33,sv aK aN aL)]) 1 hF hS rfl kr ⟨kr⟩ kr (hS.arr (i:=0) rfl) (fun _ _=>rfl) bK (fun _ _=>⟨kr⟩) fun aK aL w a hF hS=>?_)
   refine rn 1 5 [(0,sv ad1 p0 cap2),(3,sv aK aN aL),(4,pb b4),(5,iv aH),(6,iv aO)] hF fun a hF=>?_
   refine wfn rfl ?_
   refine esr ?_
   obtain ⟨aV,bM,h⟩:=A1 h
   refine ro 4 4 [(0,sv ad1 p0 cap2),(3,sv aK aN aL),(4,pb b4),(5,iv aV)] hF (oA 3 bM<|A9) fun a hF=>?_
   refine wfn rfl ?_
   refine qnB [(40,.bool (decide (aV<(ln p0))))] hF fun a hF=>?_
   refine Aj hF rfl (fun hc=>?_) (fun hc=>?_)
   ·replace h:=Af h hc
    refine esr ?_
    obtain ⟨bT,bD,h⟩:=A1 h
    refine qo 5 5 [(41,sv aK aN aL),(45,bT.ag)] hF (oI 87 (hA3 _ (hS.frz (i:=3) rfl hlow)) bD<|oG 149 0 14 api_Echo.cells_len (fun _ hd=>(hA3 _ ((hS.at_ hd).frz (i:=3) rfl hlow))) bD<|A9) fun a hF=>?_
    obtain ⟨bV,bS,h⟩:=A1 h
    refine SK.wi (qR (fun bH=>[(46,bH)]) hF (Uf F _ _ bS (Ay w) w (A5 w)) ?_)
    rintro bH w a ⟨bX,bZ,rfl,hQ⟩ hF
    replace hS:=hS.madeL hQ
    obtain ⟨aX,bL,h⟩:=A1 h
    refine SK.wi (Lq (t:=22) (ty:=22) (bytes:=1) (l:=aN) (l':=bV) (fun aS aU=>[(0,sv ad1 p0 cap2),(3,sv aK aN aL),(4,pb b4),(5,iv aV),(47,sv aS aX aU)]) 2 hF hS rfl kr ⟨kr⟩ kr (hS.arr (i:=0) rfl) (fun _ _=>rfl) bL (fun _ _=>⟨kr⟩) fun aS aU w a hF hS=>?_)
    refine rn 1 8 [(0,sv ad1 p0 cap2),(3,sv aS aX aU),(4,pb b4),(5,iv aV)] hF fun a hF=>?_
    refine wfn rfl ?_
    refine esr ?_
    obtain ⟨a2,bE,h⟩:=A1 h
    refine qo 4 4 [(51,a2.ag)] hF (oI 87 (hA3 _ (hS.frz (i:=4) rfl hlow)) bE<|oG 149 0 14 api_Echo.cells_len (fun _ hd=>(hA3 _ ((hS.at_ hd).frz (i:=4) rfl hlow))) bE<|A9) fun a hF=>?_
    refine SK.wi (qS 149 3 0 (a2.ag) a2.ar hF hS rfl fun w a hF hS=>?_)
    refine wfn rfl ?_
    refine WI.region ?_
    obtain ⟨bI,bN,h⟩:=A1 h
    refine ro 3 3 [(0,sv ad1 p0 cap2),(3,sv aS aX aU),(4,pb b4),(5,iv bI)] hF (oA 3 bN<|A9) fun a hF=>?_
    refine WI.fin rfl (Ab<|A0<|?_)
    rw [hk2] at h
    exact ⟨nk2,Nat.lt_succ_self _,a2.Kind,a2.Power.Lo,a2.Match.Lo,a2.Match.Hi,a2.Turn.Lo,a2.Turn.Hi,a2.Power.Hi,a2.Steps.1.Lo,a2.Steps.1.Hi,a2.Steps.2.Lo,a2.Steps.2.Hi,a2.Spread,a2.Ratio.Lo,a2.Ratio.Hi,aX,bI,aS,aU,hF.sub kr,St.pick [2,3,4] (by decide) hS,h⟩
   ·replace h:=Ae h hc
    refine wpIn_skip (Ab<|A0<|?_)
    rw [hk2] at h
    exact ⟨nk2,Nat.lt_succ_self _,a3,a4,a5,a6,a7,a8,a9,aA,aB,aC,aD,aE,aF,aG,aN,aV,aK,aL,hF.sub kr,St.pick [1,2,3] (by decide) hS,h⟩
  ·replace h:=Ae h hc
   refine wpIn_exit (Aa<|Aa<|Av<|A0 ?_)
   exact ⟨a3,a4,a5,a6,a7,a8,a9,aA,aB,aC,aD,aE,aF,aG,a1,aI,aJ,hF.sub kr,St.pick [0,1,2] (by decide) hS,h⟩
 rintro a w ⟨aY,aZ,b0,b1,b2,b3,b5,b6,b7,b8,b9,bA,bB,bC,aM,aR,aT,hF,hS,h⟩
 rw [Gx] at h
 refine rnB [(2,sv aR aM aT)] hF fun a hF=>?_
 refine wpIn_ret (Ad [.tmp 2] [sv aR aM aT] hF rfl ⟨rfl,trivial⟩ ?_)
 obtain rfl:=Ao h
 exact ⟨_,rfl,_,_,rfl,St.pick [0] (by decide) hS⟩
end Go.Proofs.YtifbomimeodibaaGreat
