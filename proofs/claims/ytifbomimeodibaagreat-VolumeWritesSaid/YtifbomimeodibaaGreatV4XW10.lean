import Derived.Test.YtifbomimeodibaaGreatV4XD
import Derived.Test.YtifbomimeodibaaGreatProg
import Derived.Test.YtifbomimeodibaaGreatV4XW1
import Derived.Test.YtifbomimeodibaaGreatV4XW2
import Derived.Test.YtifbomimeodibaaGreatV4XW4
import Derived.Test.YtifbomimeodibaaGreatV4XW7
import Derived.Test.YtifbomimeodibaaGreatV4XW8
namespace Go.Proofs.YtifbomimeodibaaGreat
open Go Go.RowKit Go.Eng
set_option maxRecDepth 10000
set_option maxHeartbeats 4000000
set_option linter.unusedVariables false
set_option linter.unusedSimpArgs false
theorem Ki (F:Nat) (p0:volume_sweep) (res:Int) (h:Be F p0=some res) (μ:Frz) (w0:World) (hm:FrzAt μ w0) {ad1:Option Addr} {cap2:Nat} {css3:List (List Value)} (hA4:ArrQ μ 1 Rp87 ad1 cap2 css3 p0.Sweep.Rays):Calls Tryz.prog 162 #[.agg (p0.Sweep.ax ad1 cap2)] w0 (fun e w=>e=.returned (iv res)∧Ext w0 w):=by
 obtain ⟨hlow,hS⟩:=hm.init
 have hext:=Frz.ext_refl w0.heap.size μ
 rw [Be] at h
 refine feW Tryz.func162 6 [(0,.agg (p0.Sweep.ax ad1 cap2))] hS fun a w hF hS=>?_
 refine esr<|SK.wi (qBa 156 (p0.Sweep.ax ad1 cap2) (fun b5=>[(1,pb b5)]) hF hS fun b5 w a hF hS=>?_)
 refine qn 1 2 [] hF fun a hF=>wfn rfl ?_
 refine esr ?_
 obtain ⟨y6,hy6,h⟩:=A0 h
 refine rX 4 4 [(2,iv y6)] hF (oN 41 0 0 11 hS.e rfl<|oC (fun w2 hd=>Q9 F p0.Sweep _ hy6 _ w2 (A1 w2) (hA4.mono Rp87.mono (FrzAt.le_mem ((hS.later hd).frz (i:=1) rfl hlow))))<|A3) fun a w hF hx=>?_
 replace hS:=hS.later hx
 refine wfn rfl ?_
 refine wpIn_ret (A9 [.tmp 2] [_] hF rfl ⟨rfl,trivial⟩ ?_)
 obtain rfl:=Ai h
 exact ⟨rfl,hS.ext⟩
theorem Kh (F:Nat) (p0:volume_field) (res:Int) (h:Ay F p0=some res) (μ:Frz) (w0:World) (hm:FrzAt μ w0) {ad1:Option Addr} {cap2:Nat} (hA3:ArrM μ 2 api_Span.cells ad1 cap2 p0.Field.Vals):Calls Tryz.prog 176 #[.agg (p0.ax ad1 cap2)] w0 (fun e w=>e=.returned (iv res)∧Ext w0 w):=by
 obtain ⟨hlow,hS⟩:=hm.init
 have hext:=Frz.ext_refl w0.heap.size μ
 rw [Ay] at h
 refine feW Tryz.func176 20 [(0,.agg (p0.ax ad1 cap2))] hS fun a w hF hS=>?_
 refine esr<|SK.wi (qBa 158 (p0.ax ad1 cap2) (fun b4=>[(1,pb b4)]) hF hS fun b4 w a hF hS=>?_)
 refine qn 1 2 [] hF fun a hF=>wfn rfl ?_
 refine Ak<|wpIn_block<|esr ?_
 obtain ⟨y5,hy5,h⟩:=A0 h
 refine qx 5 5 [(3,.bool (!y5))] hF (oL 9 0 0 hS.e rfl rfl<|oC (fun w2 hd=>R7 F p0.key _ hy5 _ w2 (A1 w2))<|A3) fun a w hF hx=>?_
 replace hS:=hS.later hx
 refine wfn rfl ?_
 refine A8 hF h (fun hc h=>?_) fun hc h=>?_
 ·refine rnB [(2,iv 10)] hF fun a hF=>?_
  refine wpIn_ret (Ab<|A2<|A9 [.tmp 2] [_] hF rfl ⟨rfl,trivial⟩ ?_)
  obtain rfl:=Ai h
  exact ⟨rfl,hS.ext⟩
 ·refine qoB [(8,.bool (bif (decide (p0.time<0)) then true else (decide (p0.time>4294967296))))] hF (oL 3 0 1 hS.i rfl rfl<|oGs [⟨12,false,(decide (p0.time<0))⟩] (oL 3 0 1 hS.i rfl rfl<|A3)<|A3) fun a hF=>?_
  refine A8 hF h (fun hc h=>?_) fun hc h=>?_
  ·refine rnB [(2,iv 3)] hF fun a hF=>?_
   refine wpIn_ret (Ab<|A2<|A9 [.tmp 2] [_] hF rfl ⟨rfl,trivial⟩ ?_)
   obtain rfl:=Ai h
   exact ⟨rfl,hS.ext⟩
  ·refine wpIn_skip (A7<|A4<|?_)
   refine esr ?_
   obtain ⟨y6,hy6,h⟩:=A0 h
   refine rX 4 4 [(2,iv y6)] hF (oN 46 0 2 6 hS.e rfl<|oC (fun w2 hd=>Ql F p0.Field _ hy6 _ w2 (A1 w2) (hA3.mono (FrzAt.le_mem ((hS.later hd).frz (i:=1) rfl hlow))))<|A3) fun a w hF hx=>?_
   replace hS:=hS.later hx
   refine wfn rfl ?_
   refine wpIn_ret (A9 [.tmp 2] [_] hF rfl ⟨rfl,trivial⟩ ?_)
   obtain rfl:=Ai h
   exact ⟨rfl,hS.ext⟩
theorem Jj (F:Nat) (p0:volume_writer) (p1:(List api_Echo)) (p2:api_Echo) (res:volume_writer) (h:Bq F p0 p1 p2=some res) (μ:Frz) (w0 w1:World) (T_:List Res) (hlow:B2 w0 μ) {cb0:Nat} {ad1:Option Addr} {cap2:Nat} {ad3:Option Addr} {cap4:Nat} (hA5:ArrM μ 14 api_Echo.cells ad3 cap4 p1) (hS:St w0 (fz w0 μ::blk cb0 138 #[sv ad1 p0.b cap2]::arrT 5 1 (fK .u8) ad1 p0.b.length cap2 p0.b::T_) w1):Bd Tryz.prog 169 #[pb cb0,sv ad3 p1 cap4,p2.ag,.func (.func 170) #[pb cb0] #[]] w1 (fun e w=>∃(ν_:Frz) (b1:Option Addr) (b3:Nat),μ.ext w0.heap.size ν_∧B2 w0 ν_∧e=(.tuple #[])∧St w0 (fz w0 ν_::blk cb0 138 #[sv b1 res.b b3]::arrT 5 1 (fK .u8) b1 res.b.length b3 res.b::T_) w):=by
 rw [Bq] at h
 have hext:=Frz.ext_refl w0.heap.size μ
 refine feW Tryz.func169 44 [(0,pb cb0),(1,sv ad3 p1 cap4),(2,p2.ag),(3,.func (.func 170) #[pb cb0] #[])] hS fun a w hF hS=>?_
 refine esr<|SK.wi (qBa 149 p2.ar (fun b6=>[(6,pb b6)]) hF hS fun b6 w a hF hS=>wfn rfl ?_)
 refine wpIn_block ?_
 have b4:=Frz.le_refl μ
 refine Cc (fun n_ a w=>∃(a7:Int) (a8:Int) (a9:Int) (aA:Int) (aB:Int) (aC:Int) (aD:Int) (aE:Int) (aF:Int) (aG:Int) (aH:Int) (aI:Int) (aJ:Int) (aK:Int) (a6:(List Int)) (a4:(List api_Echo)) (ν120:Frz) (aO:Option Addr) (aP:Nat) (a3:Option Addr) (a0:Nat),Fr 44 [] [(0,pb cb0),(1,sv a3 a4 a0),(3,.func (.func 170) #[pb cb0] #[]),(6,pb b6)] a∧St w0 (arrT 5 1 (fK .u8) aO a6.length aP a6::blk b6 149 #[iv a7,iv a8,iv aD,iv aE,iv aF,iv aG,iv aH,iv aI,iv aJ,iv aK,iv a9,iv aA,iv aB,iv aC]::fz w0 ν120::blk cb0 138 #[sv aO a6 aP]::T_) w∧(ArrM ν120 14 api_Echo.cells a3 a0 a4)∧(μ.le ν120)∧(μ.ext w0.heap.size ν120)∧(B2 w0 ν120)∧Az F n_ a7 a8 a9 aA aB aC aD aE aF aG aH aI aJ aK a6 a4=some res) F ⟨p2.Kind,p2.Power.Lo,p2.Match.Lo,p2.Match.Hi,p2.Turn.Lo,p2.Turn.Hi,p2.Power.Hi,p2.Steps.1.Lo,p2.Steps.1.Hi,p2.Steps.2.Lo,p2.Steps.2.Hi,p2.Spread,p2.Ratio.Lo,p2.Ratio.Hi,p0.b,p1,μ,ad1,cap2,ad3,cap4,hF.sub kr,hS.s3,hA5,b4,hext,hlow,h⟩ ?_
 clear b4
 rintro nk1 a w ⟨a7,a8,a9,aA,aB,aC,aD,aE,aF,aG,aH,aI,aJ,aK,a6,a4,ν120,aO,aP,a3,a0,hF,hS,aM,aN,hext,hlow,h⟩
 rcases nk1 with _|nk1
 ·cases (show (none:Option volume_writer)=some res from h)
 replace hA5:=hA5.mono aN
 obtain ⟨k1,hk1⟩:∃k,k=Az F nk1:=⟨_,rfl⟩
 replace h:Bf F k1 a7 a8 a9 aA aB aC aD aE aF aG aH aI aJ aK a6 a4=some res:=by rw [hk1];exact h
 rw [Bf] at h
 refine Ak<|qnB [(11,.bool (decide ((ln a4)>0)))] hF fun a hF=>?_
 refine A8 hF h (fun hc h=>?_) fun hc h=>?_
 ·refine wK<|wpIn_block<|qnB [(8,iv 0)] hF fun a hF=>?_
  refine D4 (fun a w=>∃(a2:Int),Fr 44 [] [(0,pb cb0),(1,sv a3 a4 a0),(3,.func (.func 170) #[pb cb0] #[]),(6,pb b6),(8,iv a2)] a∧St w0 (arrT 5 1 (fK .u8) aO a6.length aP a6::blk b6 149 #[iv a7,iv a8,iv aD,iv aE,iv aF,iv aG,iv aH,iv aI,iv aJ,iv aK,iv a9,iv aA,iv aB,iv aC]::fz w0 ν120::blk cb0 138 #[sv aO a6 aP]::T_) w∧Bg F a7 a8 a9 aA aB aC aD aE aF aG aH aI aJ aK a6 a4 k1 a2=some res) ?_ ?_
  ·skip
   refine wpIn_block<|Cc (fun n_ a w=>∃(aL:Int),Fr 44 [] [(0,pb cb0),(1,sv a3 a4 a0),(3,.func (.func 170) #[pb cb0] #[]),(6,pb b6),(8,iv aL)] a∧St w0 (arrT 5 1 (fK .u8) aO a6.length aP a6::blk b6 149 #[iv a7,iv a8,iv aD,iv aE,iv aF,iv aG,iv aH,iv aI,iv aJ,iv aK,iv a9,iv aA,iv aB,iv aC]::fz w0 ν120::blk cb0 138 #[sv aO a6 aP]::T_) w∧B6 F a7 a8 a9 aA aB aC aD aE aF aG aH aI aJ aK a6 a4 k1 n_ aL=some res) F ⟨0,hF.sub kr,hS,h⟩ ?_
   rintro nk3 a w ⟨aL,hF,hS,h⟩
   rcases nk3 with _|nk3
   ·cases (show (none:Option volume_writer)=some res from h)
   obtain ⟨k3,hk3⟩:∃k,k=B6 F a7 a8 a9 aA aB aC aD aE aF aG aH aI aJ aK a6 a4 k1 nk3:=⟨_,rfl⟩
   replace h:C9 F a7 a8 a9 aA aB aC aD aE aF aG aH aI aJ aK a6 a4 k1 k3 aL=some res:=by rw [hk3];exact h
   rw [C9] at h
   refine Ak<|Ak ?_
   obtain ⟨a1,b9,h⟩:=A0 h
   refine qD 12 [(23,.bool (bif (decide (aL<(ln a4))) then (((a1.Kind:Int)==a7)&&((((a1.Power.Lo:Int)==a8)&&(((a1.Power.Hi:Int)==aD)&&true))&&(((((a1.Steps.1.Lo:Int)==aE)&&(((a1.Steps.1.Hi:Int)==aF)&&true))&&((((a1.Steps.2.Lo:Int)==aG)&&(((a1.Steps.2.Hi:Int)==aH)&&true))&&true))&&(((a1.Spread:Int)==aI)&&((((a1.Ratio.Lo:Int)==aJ)&&(((a1.Ratio.Hi:Int)==aK)&&true))&&((((a1.Match.Lo:Int)==a9)&&(((a1.Match.Hi:Int)==aA)&&true))&&((((a1.Turn.Lo:Int)==aB)&&(((a1.Turn.Hi:Int)==aC)&&true))&&true))))))) else false))] hF (oX (.run [⟨16,true,(decide (aL<(ln a4)))⟩] (Instr.indexAt 87 (sv a3 a4 a0) (iv aL)) (.pointer (some (Bn a3 aL 14)))) (Jy (aM _ (hS.frz (i:=2) rfl hlow)) kr (fun hk=>Cs b9 hk))<|oX (.run [⟨16,true,(decide (aL<(ln a4)))⟩] (Instr.loadAt 149 (.pointer (some (Bn a3 aL 14)))) (a1.ag)) (S0 (m:=14) (i:=aL) (us:=a1.cells) 0 api_Echo.cells_len (fun _ hd=>(aM _ ((hS.later hd).frz (i:=2) rfl hlow))) kr (fun hk=>Cs b9 hk) ⟨rfl,rfl⟩)<|oGs [⟨16,true,(decide (aL<(ln a4)))⟩] (oN 149 1 0 14 hS.e rfl<|oX (.run [] (eqS .eql 149 a1.ar #[iv a7,iv a8,iv aD,iv aE,iv aF,iv aG,iv aH,iv aI,iv aJ,iv aK,iv a9,iv aA,iv aB,iv aC]) (.bool (((a1.Kind:Int)==a7)&&((((a1.Power.Lo:Int)==a8)&&(((a1.Power.Hi:Int)==aD)&&true))&&(((((a1.Steps.1.Lo:Int)==aE)&&(((a1.Steps.1.Hi:Int)==aF)&&true))&&((((a1.Steps.2.Lo:Int)==aG)&&(((a1.Steps.2.Hi:Int)==aH)&&true))&&true))&&(((a1.Spread:Int)==aI)&&((((a1.Ratio.Lo:Int)==aJ)&&(((a1.Ratio.Hi:Int)==aK)&&true))&&((((a1.Match.Lo:Int)==a9)&&(((a1.Match.Hi:Int)==aA)&&true))&&((((a1.Turn.Lo:Int)==aB)&&(((a1.Turn.Hi:Int)==aC)&&true))&&true))))))))) (L8 kr kr)<|A3)<|A3) fun a w hF hx=>?_
   replace hS:=hS.later hx
   refine wfn rfl ?_
   refine A8 hF h (fun hc h=>?_) fun hc h=>?_
   ·refine wK<|wpIn_block<|WI.region ?_
    obtain ⟨bA,bD,h⟩:=A0 h
    refine ro 3 3 [(0,pb cb0),(1,sv a3 a4 a0),(3,.func (.func 170) #[pb cb0] #[]),(6,pb b6),(8,iv bA)] hF (oA 3 bD<|A3) fun a hF=>WI.fin rfl (A7<|A4<|?_)
    rw [hk3] at h
    exact ⟨nk3,Nat.lt_succ_self _,bA,hF.sub kr,hS,h⟩
   ·refine wpIn_exit (A6<|A6<|Aq<|A4 ?_)
    exact ⟨aL,hF.sub kr,hS,h⟩
  rintro a w ⟨a2,hF,hS,h⟩
  rw [Bg] at h
  refine esr<|qn 2 2 [(26,pb cb0),(27,iv a2)] hF fun a hF=>?_
  refine SK.wi (qL 3 69 1 [a2] (fun b2=>[(28,sb b2 1)]) Fl hF hS fun b2 w a hF hS=>?_)
  obtain ⟨ν155,aW,hlow,hS,bG⟩:=hS.freeze (i:=3) (j:=0) rfl rfl (by decide) hlow
  replace hA5:=hA5.mono aW.1
  replace aM:=aM.mono aW.1
  replace aN:=aN.t aW.1
  replace hext:=hext.t aW
  have aT:=ArrM.of_arr bG
  obtain ⟨aX,bE,h⟩:=A0 h
  replace hS:=hS.s3.s3
  refine SK.wi (qR (fun bH=>[]) hF (Al F _ _ _ bE ν155 w0 w _ hlow aT hS) ?_)
  rintro bH w a ⟨ν160,aY,aZ,aU,hlow,rfl,hS⟩ hF
  replace hext:=hext.t aU
  replace hA5:=hA5.mono aU.1
  replace aM:=aM.mono aU.1
  replace aT:=aT.mono aU.1
  replace aN:=aN.t aU.1
  refine wfn rfl ?_
  refine esr ?_
  obtain ⟨aS,b5,h⟩:=A0 h
  have aQ:ArrM ν160 14 api_Echo.cells (Ar a3 a0 a2.toNat 14) (a0-a2.toNat) aS:=fun w_ hw_=>(aM w_ hw_).cutD api_Echo.cells_len b5
  refine ro 4 4 [(0,pb cb0),(1,.slice (Ar a3 a0 a2.toNat 14) aS.length (a0-a2.toNat)),(3,.func (.func 170) #[pb cb0] #[]),(6,pb b6)] hF (oX (.run [] (Instr.sliceAt 87 (sv a3 a4 a0) (some (iv a2)) none none) (.slice (Ar a3 a0 a2.toNat 14) aS.length (a0-a2.toNat))) (Mv kr (aM _ (hS.frz (i:=0) rfl hlow)) (fun _=>b5))<|A3) fun a hF=>wfn rfl ?_
  refine qnB [(35,.bool (decide ((ln aS)>0)))] hF fun a hF=>?_
  refine A8 hF h (fun hc h=>?_) fun hc h=>?_
  ·refine Ak ?_
   obtain ⟨a5,b8,h⟩:=A0 h
   obtain ⟨aV,b7,h⟩:=A0 h
   refine Bm 7 [5] _ (D:=fun w=>St w0 [blk cb0 138 #[sv aY aX.b aZ],arrT 5 1 (fK .u8) aY aX.b.length aZ aX.b] w∧FrzAt ν160 w) kr kr hF.size (fun w hx=>?_) (fun _ _ h=>h)
   replace hS:=hS.later hx
   refine ⟨⟨St.pick [1,2] (by decide) hS,hS.frz (i:=0) rfl hlow⟩,?_⟩
   have bK:=Frz.le_refl ν160
   have b0:ArrM ν160 14 api_Echo.cells (Ar (Ar a3 a0 a2.toNat 14) (a0-a2.toNat) (1:Int).toNat 14) ((a0-a2.toNat)-(1:Int).toNat) aV:=fun w_ hw_=>(aQ w_ hw_).cutD api_Echo.cells_len b7
   refine WT.s [0,1,2,3,4] [5] kr kr ?_
   refine qC 5 [(38,a5.ag),(40,.slice (Ar (Ar a3 a0 a2.toNat 14) (a0-a2.toNat) (1:Int).toNat 14) aV.length ((a0-a2.toNat)-(1:Int).toNat))] hF (oI 87 (aQ _ (hS.frz (i:=0) rfl hlow)) b8<|oG 149 0 14 api_Echo.cells_len (fun _ hd=>(aQ _ hd.2)) b8<|oX (.run [] (Instr.sliceAt 87 (.slice (Ar a3 a0 a2.toNat 14) aS.length (a0-a2.toNat)) (some (iv 1)) none none) (.slice (Ar (Ar a3 a0 a2.toNat 14) (a0-a2.toNat) (1:Int).toNat 14) aV.length ((a0-a2.toNat)-(1:Int).toNat))) (Mv kr (aQ _ (hS.frz (i:=0) rfl hlow)) (fun _=>b7))<|A3) fun a hF=>?_
   refine WRun.fin ?_
   refine all_cons ?_ (Am)
   refine qw 149 3 a5.ar hF hS rfl fun w a hF hS=>⟨⟨St.pick [1,2] (by decide) hS,(hS.frz (i:=0) rfl hlow)⟩,?_⟩
   refine WT.z [6] kr ?_
   refine rC 1 [(0,pb cb0),(1,.slice (Ar (Ar a3 a0 a2.toNat 14) (a0-a2.toNat) (1:Int).toNat 14) aV.length ((a0-a2.toNat)-(1:Int).toNat)),(3,.func (.func 170) #[pb cb0] #[]),(6,pb b6)] hF A3 fun a hF=>?_
   refine WRun.fin ?_
   refine wfn rfl ?_
   refine WI.region<|qo 2 2 [(41,.func (.func 170) #[pb cb0] #[]),(42,a5.ag)] hF (oN 149 3 0 14 hS.i rfl<|A3) fun a hF=>?_
   obtain ⟨bJ,bF,h⟩:=A0 h
   refine SK.wi (qR (fun bI=>[]) hF (Nr F _ _ _ bF ν160 w0 w _ hlow  hS) ?_)
   rintro bI w a ⟨ν174,bB,bC,aR,hlow,rfl,hS⟩ hF
   replace hext:=hext.t aR
   replace hA5:=hA5.mono aR.1
   replace aM:=aM.mono aR.1
   replace aT:=aT.mono aR.1
   replace aQ:=aQ.mono aR.1
   replace b0:=b0.mono aR.1
   replace aN:=aN.t aR.1
   refine WI.fin rfl (A7<|A4<|?_)
   rw [hk1] at h
   exact ⟨nk1,Nat.lt_succ_self _,a5.Kind,a5.Power.Lo,a5.Match.Lo,a5.Match.Hi,a5.Turn.Lo,a5.Turn.Hi,a5.Power.Hi,a5.Steps.1.Lo,a5.Steps.1.Hi,a5.Steps.2.Lo,a5.Steps.2.Hi,a5.Spread,a5.Ratio.Lo,a5.Ratio.Hi,bJ.b,aV,ν174,bB,bC,(Ar (Ar a3 a0 a2.toNat 14) (a0-a2.toNat) (1:Int).toNat 14),((a0-a2.toNat)-(1:Int).toNat),hF.sub kr,hS.s3.s3,b0,aN,hext,hlow,h⟩
  ·refine wpIn_skip (A7<|A4<|?_)
   rw [hk1] at h
   exact ⟨nk1,Nat.lt_succ_self _,a7,a8,a9,aA,aB,aC,aD,aE,aF,aG,aH,aI,aJ,aK,aX.b,aS,ν160,aY,aZ,(Ar a3 a0 a2.toNat 14),(a0-a2.toNat),hF.sub kr,hS.s3.s3,aQ,aN,hext,hlow,h⟩
 ·refine wpIn_exit (A6<|A6<|Aq<|?_)
  refine H4 hF rfl ?_
  obtain rfl:=Ai h
  replace hS:=hS.d1.s2.s2
  exact ⟨_,rfl,ν120,aO,aP,hext,hlow,rfl,hS⟩
theorem P6 (F:Nat) (p0:volume_sweep) (p1:volume_writer) (res:volume_writer) (h:F1 F p0 p1=some res) (μ:Frz) (w0 w1:World) (T_:List Res) (hlow:B2 w0 μ) {ad1:Option Addr} {cap2:Nat} {css3:List (List Value)} {cb1:Nat} {ad5:Option Addr} {cap6:Nat} (hA4:ArrQ μ 1 Rp87 ad1 cap2 css3 p0.Sweep.Rays) (hS:St w0 (fz w0 μ::blk cb1 138 #[sv ad5 p1.b cap6]::arrT 5 1 (fK .u8) ad5 p1.b.length cap6 p1.b::T_) w1):Bd Tryz.prog 166 #[.agg (p0.Sweep.ax ad1 cap2),pb cb1] w1 (fun e w=>∃(ν_:Frz) (aQ:Option Addr) (aU:Nat),μ.ext w0.heap.size ν_∧B2 w0 ν_∧e=(.tuple #[])∧St w0 (fz w0 ν_::blk cb1 138 #[sv aQ res.b aU]::arrT 5 1 (fK .u8) aQ res.b.length aU res.b::T_) w):=by
 rw [F1] at h
 have hext:=Frz.ext_refl w0.heap.size μ
 refine feW Tryz.func166 74 [(0,.agg (p0.Sweep.ax ad1 cap2)),(1,pb cb1)] hS fun a w hF hS=>?_
 refine esr<|SK.wi (qBa 156 (p0.Sweep.ax ad1 cap2) (fun b7=>[(2,pb b7)]) hF hS fun b7 w a hF hS=>wfn rfl ?_)
 refine esr<|qn 1 1 [(7,pb cb1)] hF fun a hF=>?_
 refine SK.wi (qL 3 69 1 [1] (fun b8=>[(8,sb b8 1)]) Fl hF hS fun b8 w a hF hS=>?_)
 obtain ⟨ν9,aW,hlow,hS,bD⟩:=hS.freeze (i:=2) (j:=0) rfl rfl (by decide) hlow
 replace hA4:=hA4.mono Rp87.mono aW.1
 replace hext:=hext.t aW
 have a0:=ArrM.of_arr bD
 obtain ⟨bT,b6,h⟩:=A0 h
 replace hS:=hS.s3.s3.s3
 refine SK.wi (qR (fun bH=>[]) hF (Al F _ _ _ b6 ν9 w0 w _ hlow a0 hS) ?_)
 rintro bH w a ⟨ν14,bM,bP,aM,hlow,rfl,hS⟩ hF
 replace hext:=hext.t aM
 replace hA4:=hA4.mono Rp87.mono aM.1
 replace a0:=a0.mono aM.1
 refine wfn rfl ?_
 refine esr<|qo 5 5 [(10,pb cb1),(14,.string p0.Sweep.Site.Name)] hF (oL 9 3 0 hS.i rfl rfl<|A3) fun a hF=>?_
 obtain ⟨bU,b9,h⟩:=A0 h
 refine SK.wi (qR (fun bI=>[]) hF (Gf F _ _ _ b9 ν14 w0 w _ hlow  hS) ?_)
 rintro bI w a ⟨ν20,bN,bQ,aN,hlow,rfl,hS⟩ hF
 replace hext:=hext.t aN
 replace hA4:=hA4.mono Rp87.mono aN.1
 replace a0:=a0.mono aN.1
 refine wfn rfl ?_
 refine esr<|qo 9 9 [(16,pb cb1),(20,iv p0.Sweep.Site.X),(24,iv p0.Sweep.Site.Y)] hF (oL 3 3 1 hS.i rfl rfl<|oL 3 3 2 hS.i rfl rfl<|A3) fun a hF=>?_
 refine SK.wi (qL 3 69 2 [p0.Sweep.Site.X,p0.Sweep.Site.Y] (fun aR=>[(25,sb aR 2)]) Fl hF hS fun aR w a hF hS=>?_)
 obtain ⟨ν26,aO,hlow,hS,bE⟩:=hS.freeze (i:=1) (j:=0) rfl rfl (by decide) hlow
 replace hA4:=hA4.mono Rp87.mono aO.1
 replace a0:=a0.mono aO.1
 replace hext:=hext.t aO
 have a1:=ArrM.of_arr bE
 obtain ⟨bV,bA,h⟩:=A0 h
 refine SK.wi (qR (fun bJ=>[]) hF (F7 F _ _ _ bA ν26 w0 w _ hlow a1 hS) ?_)
 rintro bJ w a ⟨ν31,bO,bR,aI,hlow,rfl,hS⟩ hF
 replace hext:=hext.t aI
 replace hA4:=hA4.mono Rp87.mono aI.1
 replace a0:=a0.mono aI.1
 replace a1:=a1.mono aI.1
 refine wfn rfl ?_
 refine esr<|qo 27 27 [(27,pb cb1),(31,iv p0.Sweep.Site.Z),(35,iv p0.Sweep.Site.Rose),(39,iv p0.Sweep.Site.Gates),(43,iv p0.Sweep.Site.Step),(47,iv p0.Sweep.Site.Width),(50,iv p0.Sweep.Tilt),(53,iv p0.Sweep.Time)] hF (oL 3 3 3 hS.i rfl rfl<|oL 3 3 4 hS.i rfl rfl<|oL 3 3 5 hS.i rfl rfl<|oL 3 3 6 hS.i rfl rfl<|oL 3 3 7 hS.i rfl rfl<|oL 3 3 8 hS.i rfl rfl<|oL 3 3 9 hS.i rfl rfl<|A3) fun a hF=>?_
 refine SK.wi (qL 3 69 7 [p0.Sweep.Site.Z,p0.Sweep.Site.Rose,p0.Sweep.Site.Gates,p0.Sweep.Site.Step,p0.Sweep.Site.Width,p0.Sweep.Tilt,p0.Sweep.Time] (fun aS=>[(54,sb aS 7)]) Fl hF hS fun aS w a hF hS=>?_)
 obtain ⟨ν37,aJ,hlow,hS,bF⟩:=hS.freeze (i:=1) (j:=0) rfl rfl (by decide) hlow
 replace hA4:=hA4.mono Rp87.mono aJ.1
 replace a0:=a0.mono aJ.1
 replace a1:=a1.mono aJ.1
 replace hext:=hext.t aJ
 have a4:=ArrM.of_arr bF
 obtain ⟨a2,bB,h⟩:=A0 h
 refine SK.wi (qR (fun bK=>[]) hF (Al F _ _ _ bB ν37 w0 w _ hlow a4 hS) ?_)
 rintro bK w a ⟨ν42,aE,aG,aC,hlow,rfl,hS⟩ hF
 replace hext:=hext.t aC
 replace hA4:=hA4.mono Rp87.mono aC.1
 replace a0:=a0.mono aC.1
 replace a1:=a1.mono aC.1
 replace a4:=a4.mono aC.1
 refine wfn rfl ?_
 refine qnB [(4,.slice none 0 0)] hF fun a hF=>?_
 refine D4 (fun a w=>∃(a6:(List api_Echo)) (aF:Option Addr) (aH:Nat),Fr 74 [] [(1,pb cb1),(4,sv aF a6 aH)] a∧St w0 (arr 149 14 api_Echo.cells aF a6.length aH a6::fz w0 ν42::blk cb1 138 #[sv aE a2.b aG]::arrT 5 1 (fK .u8) aE a2.b.length aG a2.b::blk b7 156 (p0.Sweep.ax ad1 cap2)::T_) w∧F6 F a2 a6=some res) ?_ ?_
 ·skip
  refine qoB [(58,sv ad1 p0.Sweep.Rays cap2),(59,iv (ln p0.Sweep.Rays)),(60,iv 0)] hF (oL 39 3 10 hS.i rfl rfl<|A3) fun a hF=>?_
  refine wpIn_block ?_
  replace hS:=hS.nilarr 149 14 api_Echo.cells
  refine Cc (fun n_ a w=>∃(a3:(List api_Echo)) (a7:Int) (a8:Option Addr) (aA:Nat),Fr 74 [] [(1,pb cb1),(4,sv a8 a3 aA),(58,sv ad1 p0.Sweep.Rays cap2),(59,iv (ln p0.Sweep.Rays)),(60,iv a7)] a∧St w0 (arr 149 14 api_Echo.cells a8 a3.length aA a3::fz w0 ν42::blk cb1 138 #[sv aE a2.b aG]::arrT 5 1 (fK .u8) aE a2.b.length aG a2.b::blk b7 156 (p0.Sweep.ax ad1 cap2)::T_) w∧D1 F p0 a2 n_ a3 a7=some res) F ⟨[],0,none,0,hF.sub kr,hS,h⟩ ?_
  rintro nk2 a w ⟨a3,a7,a8,aA,hF,hS,h⟩
  rcases nk2 with _|nk2
  ·cases (show (none:Option volume_writer)=some res from h)
  obtain ⟨k2,hk2⟩:∃k,k=D1 F p0 a2 nk2:=⟨_,rfl⟩
  replace h:F5 F p0 a2 k2 a3 a7=some res:=by rw [hk2];exact h
  rw [F5] at h
  refine qnB [(61,.bool (decide (a7<(ln p0.Sweep.Rays))))] hF fun a hF=>?_
  refine Ak<|A8 hF h (fun hc h=>?_) fun hc h=>?_
  ·refine wK<|Ak<|wpIn_block<|esr ?_
   obtain ⟨aX,b4,h⟩:=A0 h
   obtain ⟨bS,aV,b2⟩:=B8 hA4.2 b4
   obtain ⟨aP,aT,rfl,b1⟩:=b2
   refine qo 3 3 [(6,sv aP aX aT)] hF (oI 39 (hA4.at (hS.frz (i:=1) rfl hlow)) aV<|oE 87 0 (Bt 1) (fun _ hd=>(hA4.at ((hS.at_ hd).frz (i:=1) rfl hlow))) aV rfl<|A3) fun a hF=>wfn rfl ?_
   refine WI.region<|qn 2 2 [(64,sv a8 a3 aA),(65,sv aP aX aT)] hF fun a hF=>?_
   obtain ⟨aK,b3,h⟩:=A0 h
   refine SK.wi (qP 87 87 0 (fun a9 aB=>[(66,sv a9 aK aB)]) hF hS (b1 _ (hS.frz (i:=1) rfl hlow)) b3 rfl fun a9 aB w a hF hS=>?_)
   refine rn 1 4 [(1,pb cb1),(4,sv a9 aK aB),(58,sv ad1 p0.Sweep.Rays cap2),(59,iv (ln p0.Sweep.Rays)),(60,iv a7)] hF fun a hF=>WI.fin rfl (A7<|A4<|?_)
   refine WI.region ?_
   obtain ⟨aY,b5,h⟩:=A0 h
   refine ro 2 2 [(1,pb cb1),(4,sv a9 aK aB),(58,sv ad1 p0.Sweep.Rays cap2),(59,iv (ln p0.Sweep.Rays)),(60,iv aY)] hF (oA 3 b5<|A3) fun a hF=>wfn rfl ?_
   rw [hk2] at h
   exact ⟨nk2,Nat.lt_succ_self _,aK,aY,a9,aB,hF.sub kr,hS,h⟩
  ·refine wpIn_exit (A6<|A6<|Aq<|A4 ?_)
   exact ⟨a3,a8,aA,hF.sub kr,hS,h⟩
 rintro a w ⟨a6,aF,aH,hF,hS,h⟩
 rw [F6] at h
 refine WI.region<|rn 5 5 [(68,pb cb1),(69,sv aF a6 aH),(70,.agg #[iv 1,iv 0,iv 0,iv 0,iv 0,iv 0,iv 0,iv 0,iv 0,iv 0,iv 0,iv 0,iv 0,iv 0]),(72,.func (.func 170) #[pb cb1] #[])] hF fun a hF=>?_
 obtain ⟨ν92,aD,hlow,hS,bG⟩:=hS.freeze (i:=1) (j:=0) rfl rfl (by decide) hlow
 replace hA4:=hA4.mono Rp87.mono aD.1
 replace a0:=a0.mono aD.1
 replace a1:=a1.mono aD.1
 replace a4:=a4.mono aD.1
 replace hext:=hext.t aD
 have aL:=ArrM.of_arr bG
 obtain ⟨bW,bC,h⟩:=A0 h
 refine SK.wi (rR (fun bL=>[]) hF (Jj F _ _ _ _ bC ν92 w0 w _ hlow aL hS) ?_)
 rintro bL w a ⟨ν97,aZ,b0,a5,hlow,rfl,hS⟩ hF
 replace hext:=hext.t a5
 replace hA4:=hA4.mono Rp87.mono a5.1
 replace a0:=a0.mono a5.1
 replace a1:=a1.mono a5.1
 replace a4:=a4.mono a5.1
 replace aL:=aL.mono a5.1
 refine WI.fin rfl ?_
 refine H4 hF rfl ?_
 obtain rfl:=Ai h
 replace hS:=hS.d3
 exact ⟨_,rfl,ν97,aZ,b0,hext,hlow,rfl,hS⟩
theorem Sk (F:Nat) (p0:(List api_Echo)) (res:(List Int)) (h:Ho F p0=some res) (μ:Frz) (w0:World) (hm:FrzAt μ w0) {ad1:Option Addr} {cap2:Nat} (hA3:ArrM μ 14 api_Echo.cells ad1 cap2 p0):Bd Tryz.prog 107 #[sv ad1 p0 cap2] w0 (fun e w=>∃zad0 zcap0,e=(sv zad0 res zcap0)∧St w0 [arr 5 1 (fK .u8) zad0 res.length zcap0 res] w):=by
 obtain ⟨hlow,hS⟩:=hm.init
 have hext:=Frz.ext_refl w0.heap.size μ
 rw [Ho] at h
 refine feW Tryz.func107 55 [(0,sv ad1 p0 cap2)] hS fun a w hF hS=>?_
 refine qnB [] hF fun a hF=>?_
 refine qnB [(3,.slice none 0 0)] hF fun a hF=>?_
 refine esr<|qn 1 1 [(7,.agg #[iv 1,iv 0,iv 0,iv 0,iv 0,iv 0,iv 0,iv 0,iv 0,iv 0,iv 0,iv 0,iv 0,iv 0])] hF fun a hF=>?_
 refine SK.wi (qA 149 Zg (fun b4=>[(4,pb b4)]) hF hS fun b4 w a hF hS=>?_)
 refine SK.wi (qw 149 0 #[iv 1,iv 0,iv 0,iv 0,iv 0,iv 0,iv 0,iv 0,iv 0,iv 0,iv 0,iv 0,iv 0,iv 0] hF hS rfl fun w a hF hS=>wfn rfl ?_)
 refine D4 (fun a w=>∃(aY:Int) (aZ:Int) (b0:Int) (b1:Int) (b2:Int) (b3:Int) (b5:Int) (b6:Int) (b7:Int) (b8:Int) (b9:Int) (bA:Int) (bB:Int) (bC:Int) (aM:(List Int)) (aU:Option Addr) (aV:Nat),Fr 55 [] [(3,sv aU aM aV)] a∧St w0 [arr 5 1 (fK .u8) aU aM.length aV aM,blk b4 149 #[iv aY,iv aZ,iv b5,iv b6,iv b7,iv b8,iv b9,iv bA,iv bB,iv bC,iv b0,iv b1,iv b2,iv b3],fz w0 μ] w∧Gp aY aZ b0 b1 b2 b3 b5 b6 b7 b8 b9 bA bB bC aM=some res) ?_ ?_
 ·skip
  refine qnB [(5,iv 0)] hF fun a hF=>?_
  refine wpIn_block ?_
  replace hS:=hS.nilarr 5 1 (fK .u8)
  refine Cc (fun n_ a w=>∃(a3:Int) (a4:Int) (a5:Int) (a6:Int) (a7:Int) (a8:Int) (a9:Int) (aA:Int) (aB:Int) (aC:Int) (aD:Int) (aE:Int) (aF:Int) (aG:Int) (a1:(List Int)) (aH:Int) (aI:Option Addr) (aJ:Nat),Fr 55 [] [(0,sv ad1 p0 cap2),(3,sv aI a1 aJ),(4,pb b4),(5,iv aH)] a∧St w0 [arr 5 1 (fK .u8) aI a1.length aJ a1,blk b4 149 #[iv a3,iv a4,iv a9,iv aA,iv aB,iv aC,iv aD,iv aE,iv aF,iv aG,iv a5,iv a6,iv a7,iv a8],fz w0 μ] w∧Eg F p0 n_ a3 a4 a5 a6 a7 a8 a9 aA aB aC aD aE aF aG a1 aH=some res) F ⟨1,0,0,0,0,0,0,0,0,0,0,0,0,0,[],0,none,0,hF.sub kr,St.pick [0,1,2] (by decide) hS,h⟩ ?_
  rintro nk2 a w ⟨a3,a4,a5,a6,a7,a8,a9,aA,aB,aC,aD,aE,aF,aG,a1,aH,aI,aJ,hF,hS,h⟩
  rcases nk2 with _|nk2
  ·cases (show (none:Option (List Int))=some res from h)
  obtain ⟨k2,hk2⟩:∃k,k=Eg F p0 nk2:=⟨_,rfl⟩
  replace h:Gn F p0 k2 a3 a4 a5 a6 a7 a8 a9 aA aB aC aD aE aF aG a1 aH=some res:=by rw [hk2];exact h
  rw [Gn] at h
  refine Ak<|qnB [(11,.bool (decide (aH<(ln p0))))] hF fun a hF=>?_
  refine A8 hF h (fun hc h=>?_) fun hc h=>?_
  ·refine wK<|wpIn_block<|qnB [(6,iv 0)] hF fun a hF=>?_
   refine D4 (fun a w=>∃(aR:Int),Fr 55 [] [(0,sv ad1 p0 cap2),(3,sv aI a1 aJ),(4,pb b4),(5,iv aH),(6,iv aR)] a∧St w0 [arr 5 1 (fK .u8) aI a1.length aJ a1,blk b4 149 #[iv a3,iv a4,iv a9,iv aA,iv aB,iv aC,iv aD,iv aE,iv aF,iv aG,iv a5,iv a6,iv a7,iv a8],fz w0 μ] w∧Gq F p0 a3 a4 a5 a6 a7 a8 a9 aA aB aC aD aE aF aG a1 aH k2 aR=some res) ?_ ?_
   ·skip
    refine wpIn_block<|Cc (fun n_ a w=>∃(aN:Int),Fr 55 [] [(0,sv ad1 p0 cap2),(3,sv aI a1 aJ),(4,pb b4),(5,iv aH),(6,iv aN)] a∧St w0 [arr 5 1 (fK .u8) aI a1.length aJ a1,blk b4 149 #[iv a3,iv a4,iv a9,iv aA,iv aB,iv aC,iv aD,iv aE,iv aF,iv aG,iv a5,iv a6,iv a7,iv a8],fz w0 μ] w∧Fa F p0 a3 a4 a5 a6 a7 a8 a9 aA aB aC aD aE aF aG a1 aH k2 n_ aN=some res) F ⟨0,hF.sub kr,St.pick [0,1,2] (by decide) hS,h⟩ ?_
    rintro nk4 a w ⟨aN,hF,hS,h⟩
    rcases nk4 with _|nk4
    ·cases (show (none:Option (List Int))=some res from h)
    obtain ⟨k4,hk4⟩:∃k,k=Fa F p0 a3 a4 a5 a6 a7 a8 a9 aA aB aC aD aE aF aG a1 aH k2 nk4:=⟨_,rfl⟩
    replace h:J7 F p0 a3 a4 a5 a6 a7 a8 a9 aA aB aC aD aE aF aG a1 aH k2 k4 aN=some res:=by rw [hk4];exact h
    rw [J7] at h
    refine Ak<|Ak ?_
    obtain ⟨aS,bO,h⟩:=A0 h
    obtain ⟨aT,bP,h⟩:=A0 h
    obtain ⟨a0,bF,h⟩:=A0 h
    refine qD 16 [(27,.bool (bif (decide (aS<(ln p0))) then (((a0.Kind:Int)==a3)&&((((a0.Power.Lo:Int)==a4)&&(((a0.Power.Hi:Int)==a9)&&true))&&(((((a0.Steps.1.Lo:Int)==aA)&&(((a0.Steps.1.Hi:Int)==aB)&&true))&&((((a0.Steps.2.Lo:Int)==aC)&&(((a0.Steps.2.Hi:Int)==aD)&&true))&&true))&&(((a0.Spread:Int)==aE)&&((((a0.Ratio.Lo:Int)==aF)&&(((a0.Ratio.Hi:Int)==aG)&&true))&&((((a0.Match.Lo:Int)==a5)&&(((a0.Match.Hi:Int)==a6)&&true))&&((((a0.Turn.Lo:Int)==a7)&&(((a0.Turn.Hi:Int)==a8)&&true))&&true))))))) else false))] hF (oA 3 bO<|oX (.run [⟨18,true,(decide (aS<(ln p0)))⟩] (binOp .add 3 (iv aH) (iv aN)) (iv aT)) (Tj (fun hk=>Cs bP hk))<|oX (.run [⟨18,true,(decide (aS<(ln p0)))⟩] (Instr.indexAt 87 (sv ad1 p0 cap2) (iv aT)) (.pointer (some (Bn ad1 aT 14)))) (Jy (hA3 _ (hS.frz (i:=2) rfl hlow)) kr (fun hk=>Cs bF hk))<|oX (.run [⟨18,true,(decide (aS<(ln p0)))⟩] (Instr.loadAt 149 (.pointer (some (Bn ad1 aT 14)))) (a0.ag)) (S0 (m:=14) (i:=aT) (us:=a0.cells) 0 api_Echo.cells_len (fun _ hd=>(hA3 _ ((hS.later hd).frz (i:=2) rfl hlow))) kr (fun hk=>Cs bF hk) ⟨rfl,rfl⟩)<|oGs [⟨18,true,(decide (aS<(ln p0)))⟩] (oN 149 1 0 14 hS.e rfl<|oX (.run [] (eqS .eql 149 a0.ar #[iv a3,iv a4,iv a9,iv aA,iv aB,iv aC,iv aD,iv aE,iv aF,iv aG,iv a5,iv a6,iv a7,iv a8]) (.bool (((a0.Kind:Int)==a3)&&((((a0.Power.Lo:Int)==a4)&&(((a0.Power.Hi:Int)==a9)&&true))&&(((((a0.Steps.1.Lo:Int)==aA)&&(((a0.Steps.1.Hi:Int)==aB)&&true))&&((((a0.Steps.2.Lo:Int)==aC)&&(((a0.Steps.2.Hi:Int)==aD)&&true))&&true))&&(((a0.Spread:Int)==aE)&&((((a0.Ratio.Lo:Int)==aF)&&(((a0.Ratio.Hi:Int)==aG)&&true))&&((((a0.Match.Lo:Int)==a5)&&(((a0.Match.Hi:Int)==a6)&&true))&&((((a0.Turn.Lo:Int)==a7)&&(((a0.Turn.Hi:Int)==a8)&&true))&&true))))))))) (L8 kr kr)<|A3)<|A3) fun a w hF hx=>?_
    replace hS:=hS.later hx
    refine wfn rfl ?_
    refine A8 hF h (fun hc h=>?_) fun hc h=>?_
    ·refine wK<|wpIn_block<|WI.region ?_
     obtain ⟨bJ,bQ,h⟩:=A0 h
     refine ro 3 3 [(0,sv ad1 p0 cap2),(3,sv aI a1 aJ),(4,pb b4),(5,iv aH),(6,iv bJ)] hF (oA 3 bQ<|A3) fun a hF=>WI.fin rfl (A7<|A4<|?_)
     rw [hk4] at h
     exact ⟨nk4,Nat.lt_succ_self _,bJ,hF.sub kr,St.pick [0,1,2] (by decide) hS,h⟩
    ·refine wpIn_exit (A6<|A6<|Aq<|A4 ?_)
     exact ⟨aN,hF.sub kr,St.pick [0,1,2] (by decide) hS,h⟩
   rintro a w ⟨aR,hF,hS,h⟩
   rw [Gq] at h
   refine esr<|qn 2 2 [(30,sv aI a1 aJ),(31,iv aR)] hF fun a hF=>?_
   obtain ⟨bY,bR,h⟩:=A0 h
   refine SK.wi (qR (fun bG=>[(32,bG)]) hF (An F _ _ bR (Av w) w (A1 w)) ?_)
   rintro bG w a ⟨bU,bW,rfl,hQ⟩ hF
   replace hS:=hS.madeL hQ
   obtain ⟨aQ,bK,h⟩:=A0 h
   refine SK.wi (qP 22 22 1 (fun aK aL=>[(33,sv aK aQ aL)]) hF hS (hS.arr (i:=0) rfl) bK rfl fun aK aL w a hF hS=>?_)
   refine rn 1 5 [(0,sv ad1 p0 cap2),(3,sv aK aQ aL),(4,pb b4),(5,iv aH),(6,iv aR)] hF fun a hF=>wfn rfl ?_
   refine esr ?_
   obtain ⟨aX,bM,h⟩:=A0 h
   refine ro 4 4 [(0,sv ad1 p0 cap2),(3,sv aK aQ aL),(4,pb b4),(5,iv aX)] hF (oA 3 bM<|A3) fun a hF=>wfn rfl ?_
   refine qnB [(40,.bool (decide (aX<(ln p0))))] hF fun a hF=>?_
   refine A8 hF h (fun hc h=>?_) fun hc h=>?_
   ·refine esr ?_
    obtain ⟨bT,bD,h⟩:=A0 h
    refine qo 5 5 [(41,sv aK aQ aL),(45,bT.ag)] hF (oI 87 (hA3 _ (hS.frz (i:=3) rfl hlow)) bD<|oG 149 0 14 api_Echo.cells_len (fun _ hd=>(hA3 _ ((hS.at_ hd).frz (i:=3) rfl hlow))) bD<|A3) fun a hF=>?_
    obtain ⟨bZ,bS,h⟩:=A0 h
    refine SK.wi (qR (fun bH=>[(46,bH)]) hF (U7 F _ _ bS (Av w) w (A1 w)) ?_)
    rintro bH w a ⟨bV,bX,rfl,hQ⟩ hF
    replace hS:=hS.madeL hQ
    obtain ⟨aW,bL,h⟩:=A0 h
    refine SK.wi (qP 22 22 2 (fun aO aP=>[(47,sv aO aW aP)]) hF hS (hS.arr (i:=0) rfl) bL rfl fun aO aP w a hF hS=>?_)
    refine rn 1 8 [(0,sv ad1 p0 cap2),(3,sv aO aW aP),(4,pb b4),(5,iv aX)] hF fun a hF=>wfn rfl ?_
    refine esr ?_
    obtain ⟨a2,bE,h⟩:=A0 h
    refine qo 4 4 [(51,a2.ag)] hF (oI 87 (hA3 _ (hS.frz (i:=4) rfl hlow)) bE<|oG 149 0 14 api_Echo.cells_len (fun _ hd=>(hA3 _ ((hS.at_ hd).frz (i:=4) rfl hlow))) bE<|A3) fun a hF=>?_
    refine SK.wi (qw 149 3 a2.ar hF hS rfl fun w a hF hS=>wfn rfl ?_)
    refine WI.region ?_
    obtain ⟨bI,bN,h⟩:=A0 h
    refine ro 3 3 [(0,sv ad1 p0 cap2),(3,sv aO aW aP),(4,pb b4),(5,iv bI)] hF (oA 3 bN<|A3) fun a hF=>WI.fin rfl (A7<|A4<|?_)
    rw [hk2] at h
    exact ⟨nk2,Nat.lt_succ_self _,a2.Kind,a2.Power.Lo,a2.Match.Lo,a2.Match.Hi,a2.Turn.Lo,a2.Turn.Hi,a2.Power.Hi,a2.Steps.1.Lo,a2.Steps.1.Hi,a2.Steps.2.Lo,a2.Steps.2.Hi,a2.Spread,a2.Ratio.Lo,a2.Ratio.Hi,aW,bI,aO,aP,hF.sub kr,St.pick [2,3,4] (by decide) hS,h⟩
   ·refine wpIn_skip (A7<|A4<|?_)
    rw [hk2] at h
    exact ⟨nk2,Nat.lt_succ_self _,a3,a4,a5,a6,a7,a8,a9,aA,aB,aC,aD,aE,aF,aG,aQ,aX,aK,aL,hF.sub kr,St.pick [1,2,3] (by decide) hS,h⟩
  ·refine wpIn_exit (A6<|A6<|Aq<|A4 ?_)
   exact ⟨a3,a4,a5,a6,a7,a8,a9,aA,aB,aC,aD,aE,aF,aG,a1,aI,aJ,hF.sub kr,St.pick [0,1,2] (by decide) hS,h⟩
 rintro a w ⟨aY,aZ,b0,b1,b2,b3,b5,b6,b7,b8,b9,bA,bB,bC,aM,aU,aV,hF,hS,h⟩
 rw [Gp] at h
 refine rnB [(2,sv aU aM aV)] hF fun a hF=>?_
 refine wpIn_ret (A9 [.tmp 2] [_] hF rfl ⟨rfl,trivial⟩ ?_)
 obtain rfl:=Ai h
 exact ⟨_,rfl,_,_,rfl,St.pick [0] (by decide) hS⟩
end Go.Proofs.YtifbomimeodibaaGreat
