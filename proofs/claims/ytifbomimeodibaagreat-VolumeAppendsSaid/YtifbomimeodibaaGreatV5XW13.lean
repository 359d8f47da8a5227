import Derived.Test.YtifbomimeodibaaGreatV5XD
import Derived.Test.YtifbomimeodibaaGreatProg
import Derived.Test.YtifbomimeodibaaGreatV5XW0
import Derived.Test.YtifbomimeodibaaGreatV5XW1
import Derived.Test.YtifbomimeodibaaGreatV5XW2
import Derived.Test.YtifbomimeodibaaGreatV5XW4
import Derived.Test.YtifbomimeodibaaGreatV5XW5
import Derived.Test.YtifbomimeodibaaGreatV5XW10
import Derived.Test.YtifbomimeodibaaGreatV5XW11
import Derived.Test.YtifbomimeodibaaGreatV5XW12
namespace Go.Proofs.YtifbomimeodibaaGreat
open Go Go.RowKit Go.Eng
set_option maxRecDepth 10000
set_option maxHeartbeats 4000000
set_option linter.unusedVariables false
set_option linter.unusedSimpArgs false
theorem Ln (F:Nat) (p0:volume_field) (res:Int) (h:B5 F p0=some res) (μ:Frz) (w0:World) (hm:FrzAt μ w0) {ad1:Option Addr} {cap2:Nat} (hA3:ArrM μ 2 api_Span.cells ad1 cap2 p0.Field.Vals):Calls Tryz.prog 176 #[.agg (p0.ax ad1 cap2)] w0 (fun e w=>e=.returned (iv res)∧Ext w0 w):=by
 obtain ⟨hlow,hS⟩:=hm.init
 have hext:=Frz.ext_refl w0.heap.size μ
 rw [B5] at h
 refine feW Tryz.func176 20 [(0,.agg (p0.ax ad1 cap2))] hS fun a w hF hS=>?_
 refine esr<|SK.wi (qBa 158 (p0.ax ad1 cap2) (fun b4=>[(1,pb b4)]) hF hS fun b4 w a hF hS=>?_)
 refine qn 1 2 [] hF fun a hF=>wfn rfl ?_
 refine Am<|wpIn_block<|esr ?_
 obtain ⟨y5,hy5,h⟩:=A0 h
 refine qx 5 5 [(3,.bool (!y5))] hF (oL 9 0 0 hS.e rfl rfl<|oC (fun w2 hd=>Sx F p0.key _ hy5 _ w2 (A4 w2))<|A1) fun a w hF hx=>?_
 replace hS:=hS.later hx
 refine wfn rfl ?_
 refine A8 hF h (fun hc h=>?_) fun hc h=>?_
 ·refine rnB [(2,iv 10)] hF fun a hF=>?_
  refine wpIn_ret (Ab<|A2<|A7 [.tmp 2] [_] hF rfl ⟨rfl,trivial⟩ ?_)
  obtain rfl:=Ae h
  exact ⟨rfl,hS.ext⟩
 ·refine qoB [(8,.bool (bif (decide (p0.time<0)) then true else (decide (p0.time>4294967296))))] hF (oL 3 0 1 hS.i rfl rfl<|oGs [⟨12,false,(decide (p0.time<0))⟩] (oL 3 0 1 hS.i rfl rfl<|A1)<|A1) fun a hF=>?_
  refine A8 hF h (fun hc h=>?_) fun hc h=>?_
  ·refine rnB [(2,iv 3)] hF fun a hF=>?_
   refine wpIn_ret (Ab<|A2<|A7 [.tmp 2] [_] hF rfl ⟨rfl,trivial⟩ ?_)
   obtain rfl:=Ae h
   exact ⟨rfl,hS.ext⟩
  ·refine wpIn_skip (A9<|A3<|?_)
   refine esr ?_
   obtain ⟨y6,hy6,h⟩:=A0 h
   refine rX 4 4 [(2,iv y6)] hF (oN 46 0 2 6 hS.e rfl<|oC (fun w2 hd=>S8 F p0.Field _ hy6 _ w2 (A4 w2) (hA3.mono (FrzAt.le_mem ((hS.later hd).frz (i:=1) rfl hlow))))<|A1) fun a w hF hx=>?_
   replace hS:=hS.later hx
   refine wfn rfl ?_
   refine wpIn_ret (A7 [.tmp 2] [_] hF rfl ⟨rfl,trivial⟩ ?_)
   obtain rfl:=Ae h
   exact ⟨rfl,hS.ext⟩
theorem Qx (F:Nat) (p0:volume_thing) (res:Int) (h:Dw F p0=some res) (μ:Frz) (w0:World) (hm:FrzAt μ w0) {v:Value} (hv:volume_thing.R μ v p0):A2q Tryz.prog v "radome/volume.check" #[] (fun f gs=>Ba Tryz.prog f gs w0 (fun e w=>e=(iv res)∧Ext w0 w)):=by
 cases p0 with
 | nil_=>cases h
 | ic156 y =>
  obtain ⟨cs,rfl,hr⟩:=hv
  obtain ⟨ad1,cap2,css3,rfl,hA4⟩:=hr
  exact ⟨162,#[.agg (y.Sweep.ax ad1 cap2)],by kernel_rfl,(Calls.toR (Lp F y _ h μ w0 hm hA4))⟩
 | ic158 y =>
  obtain ⟨cs,rfl,hr⟩:=hv
  obtain ⟨ad5,cap6,rfl,hA7⟩:=hr
  exact ⟨176,#[.agg (y.ax ad5 cap6)],by kernel_rfl,(Calls.toR (Ln F y _ h μ w0 hm hA7))⟩
 | ic160 y =>
  obtain ⟨cs,rfl,hr⟩:=hv
  obtain rfl:=hr
  exact ⟨184,#[.agg #[iv y.time,.string y.text]],by kernel_rfl,(Calls.toR (Mm F y _ h μ w0 hm))⟩
theorem Px (F:Nat) (p0:(List Int)) (res:(volume_thing×Int)) (h:Jo F p0=some res) (μ:Frz) (w0:World) (hm:FrzAt μ w0) {ad1:Option Addr} {cap2:Nat} (hA3:ArrM μ 1 (fK .u8) ad1 cap2 p0):Ba Tryz.prog 36 #[sv ad1 p0 cap2] w0 (fun e w=>∃(ν_:Frz) (aW:Value),μ.ext w0.heap.size ν_∧e=(.tuple #[aW,iv res.2])∧volume_thing.R ν_ aW res.1∧St w0 [fz w0 ν_] w):=by
 obtain ⟨hlow,hS⟩:=hm.init
 have hext:=Frz.ext_refl w0.heap.size μ
 rw [Jo] at h
 refine Wd Tryz.func36 rfl 64 [(0,sv ad1 p0 cap2)] rfl rfl kr fun a w hw hF=>?_
 replace hS:=hS.cast hw
 clear hw
 refine esr<|SK.wi (rA 80 #[.nilIface] (fun b4=>[(0,sv ad1 p0 cap2),(2,pb b4)]) hF hS fun b4 w a hF hS=>?_)
 refine SK.wi (qA 25 #[iv 0] (fun b5=>[(3,pb b5)]) hF hS fun b5 w a hF hS=>wfn rfl ?_)
 refine esr<|qn 2 2 [(8,.agg #[sv ad1 p0 cap2])] hF fun a hF=>?_
 refine SK.wi (qBa 125 #[sv ad1 p0 cap2] (fun b6=>[(9,pb b6)]) hF hS fun b6 w a hF hS=>?_)
 refine qn 1 4 [(4,pb b6)] hF fun a hF=>wfn rfl ?_
 refine esr<|qn 1 1 [(11,pb b6)] hF fun a hF=>?_
 obtain ⟨y7,hy7,h⟩:=A0 h
 replace hS:=hS.s3
 refine SK.wi (qR (fun aS=>[(12,aS)]) hF (Kh F _ _ hy7 μ w0 w _ hlow hA3 hS) ?_)
 rintro aS w a ⟨ν8,a7,a2,hx9,hlow,rfl,a8,hS⟩ hF
 replace hext:=hext.t hx9
 replace hA3:=hA3.mono hx9.1
 refine qn 5 7 [(5,iv y7.1),(6,.bool y7.2.1)] hF fun a hF=>wfn rfl ?_
 refine Am<|Am<|Bq 27 [23,24] _ (D:=fun w=>St w0 [blk b6 125 #[sv a7 y7.2.2.b a2],blk b5 25 #[iv 0],blk b4 80 #[.nilIface]] w∧FrzAt ν8 w) kr kr hF.size (fun w hx=>?_) (fun _ _ h=>h)
 replace hS:=hS.later hx
 refine ⟨⟨St.pick [1,2,3] (by decide) hS,hS.frz (i:=0) rfl hlow⟩,?_⟩
 have aH:=Frz.le_refl ν8
 refine WT.s [0,1,2,3,4,5,6,7,8,9,10,11,12,13,14,15,16,17,18,19,20,21,22] [23] kr kr ?_
 refine qC 3 [(17,.bool (!y7.2.1))] hF A1 fun a hF=>?_
 rcases Bool.eq_false_or_eq_true ((!y7.2.1)) with aC|aC
 ·replace h:=Gx h aC
  rw [aC] at hF
  refine qkW [(17,.bool true),(18,undef)] hF fun a hF=>?_
  refine qkW [(19,undef)] hF fun a hF=>?_
  refine qkW [(20,undef)] hF fun a hF=>?_
  refine qkW [(21,undef)] hF fun a hF=>?_
  refine qkW [(22,undef)] hF fun a hF=>?_
  refine qkW [(23,undef)] hF fun a hF=>?_
  refine qkW [(24,undef)] hF fun a hF=>?_
  refine qkW [(25,undef)] hF fun a hF=>?_
  refine qC 2 [(27,.bool true)] hF A1 fun a hF=>?_
  refine qkW [(28,undef)] hF fun a hF=>?_
  refine qkW [(29,undef)] hF fun a hF=>?_
  refine qkW [(30,undef)] hF fun a hF=>?_
  refine qkW [(31,undef)] hF fun a hF=>?_
  refine qkW [(32,undef)] hF fun a hF=>?_
  refine qkW [(33,undef)] hF fun a hF=>?_
  refine qkW [(34,undef)] hF fun a hF=>?_
  refine qkW [(35,undef)] hF fun a hF=>?_
  refine qkW [(36,undef)] hF fun a hF=>?_
  refine qkW [(37,undef)] hF fun a hF=>?_
  refine WRun.fin ?_
  refine all_cons ?_ Aq
  refine qkS [(38,undef)] hF fun a hF=>?_
  refine ⟨⟨St.pick [1,2,3] (by decide) hS,(hS.frz (i:=0) rfl hlow)⟩,?_⟩
  refine WT.s [] [24] kr kr ?_
  refine WRun.fin ?_
  refine all_cons ?_ Aq
  refine qkS [(39,undef)] hF fun a hF=>?_
  refine ⟨⟨St.pick [1,2,3] (by decide) hS,(hS.frz (i:=0) rfl hlow)⟩,?_⟩
  refine WT.z [25,26] kr ?_
  refine qkW [(40,undef)] hF fun a hF=>?_
  refine qC 1 [(41,.bool true)] hF A1 fun a hF=>?_
  refine WRun.fin ?_
  refine wfn rfl ?_
  refine wpIn_cond_true (hF.get rfl) ?_
  refine esr<|SK.wi (qs 80 3 0 (.nilIface) hF hS rfl fun w a hF hS=>?_)
  refine SK.wi (qs 25 2 0 (iv 15) hF hS rfl fun w a hF hS=>wfn rfl ?_)
  refine wpIn_ret (A2<|V3 [.cell 2 80,.cell 3 25] [_,_] hF rfl ⟨⟨_,rfl,Bo kr (hS.cell (i:=3) (j:=0) rfl rfl)⟩,⟨_,rfl,Bo kr (hS.cell (i:=2) (j:=0) rfl rfl)⟩,trivial⟩ ?_)
  obtain rfl:=Ae h
  exact ⟨_,rfl,ν8,.nilIface,hext,rfl,(show volume_thing.R _ .nilIface .nil_ from rfl),St.pick [0] (by decide) hS⟩
 ·replace h:=Gw h aC
  rw [aC] at hF
  obtain ⟨aX,b2,h⟩:=A0 h
  refine qC 10 [(27,.bool ((ln y7.2.2.b) != aX))] hF (oGs [⟨17,false,false⟩] (oL 22 0 0 (fun _ hd=>hd.1) rfl rfl<|oA 3 b2<|A1)<|A1) fun a hF=>?_
  rcases Bool.eq_false_or_eq_true (((ln y7.2.2.b) != aX)) with aD|aD
  ·replace h:=Gx h aD
   rw [aD] at hF
   refine qkW [(27,.bool true),(28,undef)] hF fun a hF=>?_
   refine qkW [(29,undef)] hF fun a hF=>?_
   refine qkW [(30,undef)] hF fun a hF=>?_
   refine qkW [(31,undef)] hF fun a hF=>?_
   refine qkW [(32,undef)] hF fun a hF=>?_
   refine qkW [(33,undef)] hF fun a hF=>?_
   refine qkW [(34,undef)] hF fun a hF=>?_
   refine qkW [(35,undef)] hF fun a hF=>?_
   refine qkW [(36,undef)] hF fun a hF=>?_
   refine qkW [(37,undef)] hF fun a hF=>?_
   refine WRun.fin ?_
   refine all_cons ?_ Aq
   refine qkS [(38,undef)] hF fun a hF=>?_
   refine ⟨⟨St.pick [1,2,3] (by decide) hS,(hS.frz (i:=0) rfl hlow)⟩,?_⟩
   refine WT.s [] [24] kr kr ?_
   refine WRun.fin ?_
   refine all_cons ?_ Aq
   refine qkS [(39,undef)] hF fun a hF=>?_
   refine ⟨⟨St.pick [1,2,3] (by decide) hS,(hS.frz (i:=0) rfl hlow)⟩,?_⟩
   refine WT.z [25,26] kr ?_
   refine qkW [(40,undef)] hF fun a hF=>?_
   refine qC 1 [(41,.bool true)] hF A1 fun a hF=>?_
   refine WRun.fin ?_
   refine wfn rfl ?_
   refine wpIn_cond_true (hF.get rfl) ?_
   refine esr<|SK.wi (qs 80 3 0 (.nilIface) hF hS rfl fun w a hF hS=>?_)
   refine SK.wi (qs 25 2 0 (iv 15) hF hS rfl fun w a hF hS=>wfn rfl ?_)
   refine wpIn_ret (A2<|V3 [.cell 2 80,.cell 3 25] [_,_] hF rfl ⟨⟨_,rfl,Bo kr (hS.cell (i:=3) (j:=0) rfl rfl)⟩,⟨_,rfl,Bo kr (hS.cell (i:=2) (j:=0) rfl rfl)⟩,trivial⟩ ?_)
   obtain rfl:=Ae h
   exact ⟨_,rfl,ν8,.nilIface,hext,rfl,(show volume_thing.R _ .nilIface .nil_ from rfl),St.pick [0] (by decide) hS⟩
  ·replace h:=Gw h aD
   rw [aD] at hF
   obtain ⟨a3,b3,h⟩:=A0 h
   obtain ⟨a6,aP,h⟩:=A0 h
   have a9:ArrM ν8 1 (fK .u8) (Al ad1 cap2 a3.toNat 1) (cap2-a3.toNat) a6:=fun w_ hw_=>(hA3 w_ hw_).cutD (B8 .u8) aP
   obtain ⟨aY,b7,h⟩:=A0 h
   obtain ⟨aI,aQ,h⟩:=A0 h
   have aA:ArrM ν8 1 (fK .u8) (Al ad1 cap2 (0:Int).toNat 1) (cap2-(0:Int).toNat) aI:=fun w_ hw_=>(hA3 w_ hw_).cutD (B8 .u8) aQ
   refine Y0 (rest:=[]) (obs:=[.run [⟨27,false,false⟩] (binOp .sub 3 (iv (ln p0)) (iv 5)) (iv a3),.run [⟨27,false,false⟩] (Instr.sliceAt 22 (sv ad1 p0 cap2) (some (iv a3)) none none) (.slice (Al ad1 cap2 a3.toNat 1) a6.length (cap2-a3.toNat)),.run [⟨27,false,false⟩] (binOp .sub 3 (iv (ln p0)) (iv 5)) (iv aY),.run [⟨27,false,false⟩] (Instr.sliceAt 22 (sv ad1 p0 cap2) none (some (iv aY)) none) (.slice (Al ad1 cap2 (0:Int).toNat 1) aI.length (cap2-(0:Int).toNat))]) [13,14,15,16,17,18,19,20,21,22] [(2,⟨[],pb b4⟩),(3,⟨[],pb b5⟩),(4,⟨[],pb b6⟩),(5,⟨[],iv y7.1⟩),(27,⟨[],.bool false⟩),(32,⟨[⟨27,false,false⟩],.slice (Al ad1 cap2 a3.toNat 1) a6.length (cap2-a3.toNat)⟩),(37,⟨[⟨27,false,false⟩],.slice (Al ad1 cap2 (0:Int).toNat 1) aI.length (cap2-(0:Int).toNat)⟩)] hF kr kr (Gq (Sh (fun _=>b3)) (Gq (Lv kr (hA3 _ (hS.frz (i:=0) rfl hlow)) (fun _=>aP)) (Gq (Sh (fun _=>b7)) (Gq (Nl kr (hA3 _ (hS.frz (i:=0) rfl hlow)) (fun _=>aQ)) A1)))) ⟨kr⟩ kr fun a hF=>?_
   replace hF:Fr 64 [] [(2,pb b4),(3,pb b5),(4,pb b6),(5,iv y7.1),(27,.bool false),(32,.slice (Al ad1 cap2 a3.toNat 1) a6.length (cap2-a3.toNat)),(37,.slice (Al ad1 cap2 (0:Int).toNat 1) aI.length (cap2-(0:Int).toNat))] a:=hF
   refine WRun.fin ?_
   refine all_cons ?_ Aq
   obtain ⟨a1,b8,h⟩:=A0 h
   refine qR (fun aT=>[(38,aT)]) hF (S6 F _ _ b8 (B0 w) w (A4 w) (aA.mono (FrzAt.le_mem (hS.frz (i:=0) rfl hlow)))) ?_
   rintro aT w a ⟨aE,aF,rfl,hQ⟩ hF
   replace hS:=hS.madeL hQ
   refine ⟨⟨St.pick [2,3,4] (by decide) hS,(hS.frz (i:=1) rfl hlow)⟩,?_⟩
   refine WT.s [] [24] kr kr ?_
   refine WRun.fin ?_
   refine all_cons ?_ Aq
   refine Xf [(2,pb b4),(3,pb b5),(4,pb b6),(5,iv y7.1),(27,.bool false),(39,.bool (Gy a6 a1))] hF kr ⟨kr⟩ (Qz a6 a1 _ rfl (B0 w) w (A4 w) (a9.mono (FrzAt.le_mem (hS.frz (i:=1) rfl hlow))) (Arr.toM (hS.arr (i:=0) rfl))) ⟨kr⟩ ?_
   intro w a hx hF
   replace hS:=hS.later hx
   refine ⟨⟨St.pick [2,3,4] (by decide) hS,(hS.frz (i:=1) rfl hlow)⟩,?_⟩
   refine WT.z [25,26] kr ?_
   refine rC 2 [(2,pb b4),(3,pb b5),(4,pb b6),(5,iv y7.1),(41,.bool (!(Gy a6 a1)))] hF A1 fun a hF=>?_
   refine WRun.fin ?_
   refine wfn rfl ?_
   refine A8 hF h (fun hc h=>?_) fun hc h=>?_
   ·refine esr<|SK.wi (qs 80 4 0 (.nilIface) hF hS rfl fun w a hF hS=>?_)
    refine SK.wi (qs 25 3 0 (iv 15) hF hS rfl fun w a hF hS=>wfn rfl ?_)
    refine wpIn_ret (A2<|V3 [.cell 2 80,.cell 3 25] [_,_] hF rfl ⟨⟨_,rfl,Bo kr (hS.cell (i:=4) (j:=0) rfl rfl)⟩,⟨_,rfl,Bo kr (hS.cell (i:=3) (j:=0) rfl rfl)⟩,trivial⟩ ?_)
    obtain rfl:=Ae h
    exact ⟨_,rfl,ν8,.nilIface,hext,rfl,(show volume_thing.R _ .nilIface .nil_ from rfl),St.pick [1] (by decide) hS⟩
   ·refine wK<|esr ?_
    obtain ⟨aJ,aR,h⟩:=A0 h
    have aB:ArrM ν8 1 (fK .u8) (Al a7 a2 (0:Int).toNat 1) (a2-(0:Int).toNat) aJ:=fun w_ hw_=>(a8 w_ hw_).cutD (B8 .u8) aR
    refine qo 9 9 [(48,.slice (Al a7 a2 (0:Int).toNat 1) aJ.length (a2-(0:Int).toNat)),(50,pb b6)] hF (oL 22 2 0 hS.i rfl rfl<|oX (.run [] (Instr.sliceAt 22 (sv a7 y7.2.2.b a2) none (some (iv y7.1)) none) (.slice (Al a7 a2 (0:Int).toNat 1) aJ.length (a2-(0:Int).toNat))) (Nl kr (a8 _ (hS.frz (i:=1) rfl hlow)) (fun _=>aR))<|A1) fun a hF=>?_
    refine SK.wi (qs 22 2 0 (.slice (Al a7 a2 (0:Int).toNat 1) aJ.length (a2-(0:Int).toNat)) hF hS rfl fun w a hF hS=>wfn rfl ?_)
    refine esr<|qn 1 1 [(51,.func (.func 69) #[] #[pb b4,pb b5])] hF fun a hF=>?_
    refine A13 2 ⟨.fn (.func 69) #[pb b4,pb b5],#[]⟩ [(2,pb b4),(3,pb b5),(4,pb b6)] hF kr ⟨kr⟩ ⟨kr⟩ rfl fun a hF=>wfn rfl ?_
    refine esr<|rn 1 1 [(2,pb b4),(3,pb b5),(4,pb b6),(52,pb b6)] hF fun a hF=>?_
    obtain ⟨bH,b9,h⟩:=A0 h
    replace hS:=hS.s2.s2
    refine Ee (fun aU=>[(2,pb b4),(3,pb b5),(4,pb b6),(53,aU)]) hF kr ⟨kr⟩ (Pq F _ _ b9 ν8 w0 w _ hlow aB hS) (fun _=>⟨kr⟩) ?_ ?_
    ·rintro b1 w he_ ⟨ν42,aZ,b0,a5,hlow,bG,hS⟩
     replace h:=H0 h he_
     replace hext:=hext.t a5
     replace hA3:=hA3.mono a5.1
     replace a8:=a8.mono a5.1
     replace a9:=a9.mono a5.1
     replace aA:=aA.mono a5.1
     replace aB:=aB.mono a5.1
     replace aH:=aH.t a5.1
     obtain ⟨aN,bC,h⟩:=A0 h
     rw [Yd bC]
     refine A6<|Sc [.cell 2 80,.cell 3 25] hF rfl (fun _=>by kernel_rfl) ?_
     refine CallsDIn.mono (P7 .nilIface 0 aN (by simpa using St.pick [4,3,0,1,2] (by decide) hS)) ?_
     rintro e u_ w ⟨rfl,hu_,hS⟩
     replace hS:St w0 [blk b4 80 #[.nilIface],blk b5 25 #[iv aN],fz w0 ν42,blk b6 125 #[sv aZ b1.2.b b0],arr 5 1 (fK .u8) aE a1.length aF a1] w:=hS
     refine ⟨_,rfl,hu_,[.nilIface,iv aN],⟨⟨_,rfl,Bo kr (hS.cell (i:=0) (j:=0) rfl rfl)⟩,⟨_,rfl,Bo kr (hS.cell (i:=1) (j:=0) rfl rfl)⟩,trivial⟩,?_⟩
     obtain rfl:=Ae h
     exact ⟨_,rfl,ν42,.nilIface,hext,rfl,(show volume_thing.R _ .nilIface .nil_ from rfl),St.pick [2] (by decide) hS⟩
    rintro aK aU w a he_ ⟨ν34,a0,aL,aM,a4,hlow,hv_,aG,bF,hS⟩ hF
    replace h:=H3 h he_
    try rw [hv_] at hF
    replace hext:=hext.t a4
    replace hA3:=hA3.mono a4.1
    replace a8:=a8.mono a4.1
    replace a9:=a9.mono a4.1
    replace aA:=aA.mono a4.1
    replace aB:=aB.mono a4.1
    replace aH:=aH.t a4.1
    refine SK.wi (Zo (t:=80) [(2,pb b4),(3,pb b5),(4,pb b6)] 4 0 a0 #[a0] aG.one hF hS rfl kr ⟨kr⟩ kr kr kr ⟨kr⟩ fun w a hF hS=>wfn rfl ?_)
    refine esr<|ro 1 1 [(2,pb b4),(3,pb b5),(4,pb b6),(54,a0)] hF (oL 80 4 0 hS.i rfl rfl<|A1) fun a hF=>?_
    obtain ⟨bI,bA,h⟩:=A0 h
    refine SK.wi (Z9 (fun aV=>[(2,pb b4),(3,pb b5),(4,pb b6),(55,aV)]) hF kr ⟨kr⟩ (Qx F _ _ bA (B0 w) w (A4 w) (aG.mono (FrzAt.le_mem (hS.frz (i:=0) rfl hlow)))) (fun _=>⟨kr⟩) ?_)
    rintro aV w a ⟨rfl,hx⟩ hF
    replace hS:=hS.later hx
    obtain ⟨bJ,bB,h⟩:=A0 h
    refine A0z (fun bE=>[(2,pb b4),(3,pb b5),(4,pb b6)]) hF kr ⟨kr⟩ (P4 F _ _ bB (B0 w) w (A4 w)) (fun _=>⟨kr⟩) ?_ ?_
    ·intro v_ w he_ hx
     replace hS:=hS.later hx
     replace h:=H0 h he_
     obtain ⟨aO,bD,h⟩:=A0 h
     rw [Yd bD]
     refine A6<|Sc [.cell 2 80,.cell 3 25] hF rfl (fun _=>by kernel_rfl) ?_
     refine CallsDIn.mono (P7 a0 0 aO (by simpa using St.pick [4,3,0,1,2] (by decide) hS)) ?_
     rintro e u_ w ⟨rfl,hu_,hS⟩
     replace hS:St w0 [blk b4 80 #[.nilIface],blk b5 25 #[iv aO],fz w0 ν34,blk b6 125 #[sv aL aK.2.b aM],arr 5 1 (fK .u8) aE a1.length aF a1] w:=hS
     refine ⟨_,rfl,hu_,[.nilIface,iv aO],⟨⟨_,rfl,Bo kr (hS.cell (i:=0) (j:=0) rfl rfl)⟩,⟨_,rfl,Bo kr (hS.cell (i:=1) (j:=0) rfl rfl)⟩,trivial⟩,?_⟩
     obtain rfl:=Ae h
     exact ⟨_,rfl,ν34,.nilIface,hext,rfl,(show volume_thing.R _ .nilIface .nil_ from rfl),St.pick [2] (by decide) hS⟩
    rintro bK bE w a he_ ⟨rfl,hx⟩ hF
    replace h:=H3 h he_
    replace hS:=hS.later hx
    refine wfn rfl ?_
    refine Am<|roB [(2,pb b4),(3,pb b5),(62,.bool (decide ((ln aK.2.b)>0)))] hF (oL 22 1 0 hS.i rfl rfl<|A1) fun a hF=>?_
    refine A8 hF h (fun hc h=>?_) fun hc h=>?_
    ·refine esr<|SK.wi (qs 80 4 0 (.nilIface) hF hS rfl fun w a hF hS=>?_)
     refine SK.wi (qs 25 3 0 (iv 7) hF hS rfl fun w a hF hS=>wfn rfl ?_)
     refine wpIn_ret (A2<|V4 [.cell 2 80,.cell 3 25] hF rfl (fun _=>by kernel_rfl) ?_)
     refine CallsDIn.mono (P6 .nilIface 7 (by simpa using St.pick [4,3,0,1,2] (by decide) hS)) ?_
     rintro e u_ w ⟨rfl,hu_,hS⟩
     replace hS:St w0 [blk b4 80 #[.nilIface],blk b5 25 #[iv 7],fz w0 ν34,blk b6 125 #[sv aL aK.2.b aM],arr 5 1 (fK .u8) aE a1.length aF a1] w:=hS
     refine ⟨_,rfl,hu_,[.nilIface,iv 7],⟨⟨_,rfl,Bo kr (hS.cell (i:=0) (j:=0) rfl rfl)⟩,⟨_,rfl,Bo kr (hS.cell (i:=1) (j:=0) rfl rfl)⟩,trivial⟩,?_⟩
     obtain rfl:=Ae h
     exact ⟨_,rfl,ν34,.nilIface,hext,rfl,(show volume_thing.R _ .nilIface .nil_ from rfl),St.pick [2] (by decide) hS⟩
    ·refine wK<|esr<|qo 1 1 [(63,a0)] hF (oL 80 4 0 hS.i rfl rfl<|A1) fun a hF=>?_
     refine SK.wi (Zo (t:=80) [(2,pb b4),(3,pb b5)] 4 0 a0 #[a0] aG.one hF hS rfl kr ⟨kr⟩ kr kr kr ⟨kr⟩ fun w a hF hS=>?_)
     refine SK.wi (Pj (t:=25) [(2,pb b4),(3,pb b5)] 3 0 (iv 0) #[iv 0] hF hS rfl kr ⟨kr⟩ kr kr kr kr ⟨kr⟩ fun w a hF hS=>wfn rfl ?_)
     refine wpIn_ret (V4 [.cell 2 80,.cell 3 25] hF rfl (fun _=>by kernel_rfl) ?_)
     refine CallsDIn.mono (P6 a0 0 (by simpa using St.pick [4,3,0,1,2] (by decide) hS)) ?_
     rintro e u_ w ⟨rfl,hu_,hS⟩
     replace hS:St w0 [blk b4 80 #[a0],blk b5 25 #[iv 0],fz w0 ν34,blk b6 125 #[sv aL aK.2.b aM],arr 5 1 (fK .u8) aE a1.length aF a1] w:=hS
     refine ⟨_,rfl,hu_,[a0,iv 0],⟨⟨_,rfl,Bo kr (hS.cell (i:=0) (j:=0) rfl rfl)⟩,⟨_,rfl,Bo kr (hS.cell (i:=1) (j:=0) rfl rfl)⟩,trivial⟩,?_⟩
     obtain rfl:=Ae h
     exact ⟨_,rfl,ν34,a0,hext,rfl,aG,St.pick [2] (by decide) hS⟩
theorem Ky (F:Nat) (p0:volume_writer) (p1:(List api_Echo)) (p2:api_Echo) (res:volume_writer) (h:Cl F p0 p1 p2=some res) (μ:Frz) (w0 w1:World) (T_:List Res) (hlow:Ax w0 μ) {cb0:Nat} {ad1:Option Addr} {cap2:Nat} {ad3:Option Addr} {cap4:Nat} (hA5:ArrM μ 14 api_Echo.cells ad3 cap4 p1) (hS:St w0 (fz w0 μ::blk cb0 138 #[sv ad1 p0.b cap2]::arrT 5 1 (fK .u8) ad1 p0.b.length cap2 p0.b::T_) w1):Ba Tryz.prog 169 #[pb cb0,sv ad3 p1 cap4,p2.ag,.func (.func 170) #[pb cb0] #[]] w1 (fun e w=>∃(ν_:Frz) (b1:Option Addr) (b3:Nat),μ.ext w0.heap.size ν_∧Ax w0 ν_∧e=(.tuple #[])∧St w0 (fz w0 ν_::blk cb0 138 #[sv b1 res.b b3]::arrT 5 1 (fK .u8) b1 res.b.length b3 res.b::T_) w):=by
 rw [Cl] at h
 have hext:=Frz.ext_refl w0.heap.size μ
 refine feW Tryz.func169 44 [(0,pb cb0),(1,sv ad3 p1 cap4),(2,p2.ag),(3,.func (.func 170) #[pb cb0] #[])] hS fun a w hF hS=>?_
 refine esr<|SK.wi (qBa 149 p2.ar (fun b6=>[(6,pb b6)]) hF hS fun b6 w a hF hS=>wfn rfl ?_)
 refine wpIn_block ?_
 have b4:=Frz.le_refl μ
 refine Ck (fun n_ a w=>∃(a7:Int) (a8:Int) (a9:Int) (aA:Int) (aB:Int) (aC:Int) (aD:Int) (aE:Int) (aF:Int) (aG:Int) (aH:Int) (aI:Int) (aJ:Int) (aK:Int) (a6:(List Int)) (a4:(List api_Echo)) (ν120:Frz) (aO:Option Addr) (aP:Nat) (a3:Option Addr) (a0:Nat),Fr 44 [] [(0,pb cb0),(1,sv a3 a4 a0),(3,.func (.func 170) #[pb cb0] #[]),(6,pb b6)] a∧St w0 (arrT 5 1 (fK .u8) aO a6.length aP a6::blk b6 149 #[iv a7,iv a8,iv aD,iv aE,iv aF,iv aG,iv aH,iv aI,iv aJ,iv aK,iv a9,iv aA,iv aB,iv aC]::fz w0 ν120::blk cb0 138 #[sv aO a6 aP]::T_) w∧(ArrM ν120 14 api_Echo.cells a3 a0 a4)∧(μ.le ν120)∧(μ.ext w0.heap.size ν120)∧(Ax w0 ν120)∧B6 F n_ a7 a8 a9 aA aB aC aD aE aF aG aH aI aJ aK a6 a4=some res) F ⟨p2.Kind,p2.Power.Lo,p2.Match.Lo,p2.Match.Hi,p2.Turn.Lo,p2.Turn.Hi,p2.Power.Hi,p2.Steps.1.Lo,p2.Steps.1.Hi,p2.Steps.2.Lo,p2.Steps.2.Hi,p2.Spread,p2.Ratio.Lo,p2.Ratio.Hi,p0.b,p1,μ,ad1,cap2,ad3,cap4,hF.sub kr,hS.s3,hA5,b4,hext,hlow,h⟩ ?_
 clear b4
 rintro nk1 a w ⟨a7,a8,a9,aA,aB,aC,aD,aE,aF,aG,aH,aI,aJ,aK,a6,a4,ν120,aO,aP,a3,a0,hF,hS,aM,aN,hext,hlow,h⟩
 rcases nk1 with _|nk1
 ·cases (show (none:Option volume_writer)=some res from h)
 replace hA5:=hA5.mono aN
 obtain ⟨k1,hk1⟩:∃k,k=B6 F nk1:=⟨_,rfl⟩
 replace h:C0 F k1 a7 a8 a9 aA aB aC aD aE aF aG aH aI aJ aK a6 a4=some res:=by rw [hk1];exact h
 rw [C0] at h
 refine Am<|qnB [(11,.bool (decide ((ln a4)>0)))] hF fun a hF=>?_
 refine A8 hF h (fun hc h=>?_) fun hc h=>?_
 ·refine wK<|wpIn_block<|qnB [(8,iv 0)] hF fun a hF=>?_
  refine Dx (fun a w=>∃(a2:Int),Fr 44 [] [(0,pb cb0),(1,sv a3 a4 a0),(3,.func (.func 170) #[pb cb0] #[]),(6,pb b6),(8,iv a2)] a∧St w0 (arrT 5 1 (fK .u8) aO a6.length aP a6::blk b6 149 #[iv a7,iv a8,iv aD,iv aE,iv aF,iv aG,iv aH,iv aI,iv aJ,iv aK,iv a9,iv aA,iv aB,iv aC]::fz w0 ν120::blk cb0 138 #[sv aO a6 aP]::T_) w∧C1 F a7 a8 a9 aA aB aC aD aE aF aG aH aI aJ aK a6 a4 k1 a2=some res) ?_ ?_
  ·skip
   refine wpIn_block<|Ck (fun n_ a w=>∃(aL:Int),Fr 44 [] [(0,pb cb0),(1,sv a3 a4 a0),(3,.func (.func 170) #[pb cb0] #[]),(6,pb b6),(8,iv aL)] a∧St w0 (arrT 5 1 (fK .u8) aO a6.length aP a6::blk b6 149 #[iv a7,iv a8,iv aD,iv aE,iv aF,iv aG,iv aH,iv aI,iv aJ,iv aK,iv a9,iv aA,iv aB,iv aC]::fz w0 ν120::blk cb0 138 #[sv aO a6 aP]::T_) w∧Bg F a7 a8 a9 aA aB aC aD aE aF aG aH aI aJ aK a6 a4 k1 n_ aL=some res) F ⟨0,hF.sub kr,hS,h⟩ ?_
   rintro nk3 a w ⟨aL,hF,hS,h⟩
   rcases nk3 with _|nk3
   ·cases (show (none:Option volume_writer)=some res from h)
   obtain ⟨k3,hk3⟩:∃k,k=Bg F a7 a8 a9 aA aB aC aD aE aF aG aH aI aJ aK a6 a4 k1 nk3:=⟨_,rfl⟩
   replace h:D3 F a7 a8 a9 aA aB aC aD aE aF aG aH aI aJ aK a6 a4 k1 k3 aL=some res:=by rw [hk3];exact h
   rw [D3] at h
   refine Am<|Am ?_
   obtain ⟨a1,b9,h⟩:=A0 h
   refine qD 12 [(23,.bool (bif (decide (aL<(ln a4))) then (((a1.Kind:Int)==a7)&&((((a1.Power.Lo:Int)==a8)&&(((a1.Power.Hi:Int)==aD)&&true))&&(((((a1.Steps.1.Lo:Int)==aE)&&(((a1.Steps.1.Hi:Int)==aF)&&true))&&((((a1.Steps.2.Lo:Int)==aG)&&(((a1.Steps.2.Hi:Int)==aH)&&true))&&true))&&(((a1.Spread:Int)==aI)&&((((a1.Ratio.Lo:Int)==aJ)&&(((a1.Ratio.Hi:Int)==aK)&&true))&&((((a1.Match.Lo:Int)==a9)&&(((a1.Match.Hi:Int)==aA)&&true))&&((((a1.Turn.Lo:Int)==aB)&&(((a1.Turn.Hi:Int)==aC)&&true))&&true))))))) else false))] hF (oX (.run [⟨16,true,(decide (aL<(ln a4)))⟩] (Instr.indexAt 87 (sv a3 a4 a0) (iv aL)) (.pointer (some (Bl a3 aL 14)))) (J0 (aM _ (hS.frz (i:=2) rfl hlow)) kr (fun hk=>Bt b9 hk))<|oX (.run [⟨16,true,(decide (aL<(ln a4)))⟩] (Instr.loadAt 149 (.pointer (some (Bl a3 aL 14)))) (a1.ag)) (Tv (m:=14) (i:=aL) (us:=a1.cells) 0 api_Echo.cells_len (fun _ hd=>(aM _ ((hS.later hd).frz (i:=2) rfl hlow))) kr (fun hk=>Bt b9 hk) ⟨rfl,rfl⟩)<|oGs [⟨16,true,(decide (aL<(ln a4)))⟩] (oN 149 1 0 14 hS.e rfl<|oX (.run [] (eqS .eql 149 a1.ar #[iv a7,iv a8,iv aD,iv aE,iv aF,iv aG,iv aH,iv aI,iv aJ,iv aK,iv a9,iv aA,iv aB,iv aC]) (.bool (((a1.Kind:Int)==a7)&&((((a1.Power.Lo:Int)==a8)&&(((a1.Power.Hi:Int)==aD)&&true))&&(((((a1.Steps.1.Lo:Int)==aE)&&(((a1.Steps.1.Hi:Int)==aF)&&true))&&((((a1.Steps.2.Lo:Int)==aG)&&(((a1.Steps.2.Hi:Int)==aH)&&true))&&true))&&(((a1.Spread:Int)==aI)&&((((a1.Ratio.Lo:Int)==aJ)&&(((a1.Ratio.Hi:Int)==aK)&&true))&&((((a1.Match.Lo:Int)==a9)&&(((a1.Match.Hi:Int)==aA)&&true))&&((((a1.Turn.Lo:Int)==aB)&&(((a1.Turn.Hi:Int)==aC)&&true))&&true))))))))) (La kr kr)<|A1)<|A1) fun a w hF hx=>?_
   replace hS:=hS.later hx
   refine wfn rfl ?_
   refine A8 hF h (fun hc h=>?_) fun hc h=>?_
   ·refine wK<|wpIn_block<|WI.region ?_
    obtain ⟨bA,bD,h⟩:=A0 h
    refine ro 3 3 [(0,pb cb0),(1,sv a3 a4 a0),(3,.func (.func 170) #[pb cb0] #[]),(6,pb b6),(8,iv bA)] hF (oA 3 bD<|A1) fun a hF=>WI.fin rfl (A9<|A3<|?_)
    rw [hk3] at h
    exact ⟨nk3,Nat.lt_succ_self _,bA,hF.sub kr,hS,h⟩
   ·refine wpIn_exit (A5<|A5<|Ar<|A3 ?_)
    exact ⟨aL,hF.sub kr,hS,h⟩
  rintro a w ⟨a2,hF,hS,h⟩
  rw [C1] at h
  refine esr<|qn 2 2 [(26,pb cb0),(27,iv a2)] hF fun a hF=>?_
  refine SK.wi (qL 3 69 1 [a2] (fun b2=>[(28,sb b2 1)]) H9 hF hS fun b2 w a hF hS=>?_)
  obtain ⟨ν155,aW,hlow,hS,bG⟩:=hS.freeze (i:=3) (j:=0) rfl rfl (by decide) hlow
  replace hA5:=hA5.mono aW.1
  replace aM:=aM.mono aW.1
  replace aN:=aN.t aW.1
  replace hext:=hext.t aW
  have aT:=ArrM.of_arr bG
  obtain ⟨aX,bE,h⟩:=A0 h
  replace hS:=hS.s3.s3
  refine SK.wi (qR (fun bH=>[]) hF (As F _ _ _ bE ν155 w0 w _ hlow aT hS) ?_)
  rintro bH w a ⟨ν160,aY,aZ,aU,hlow,rfl,hS⟩ hF
  replace hext:=hext.t aU
  replace hA5:=hA5.mono aU.1
  replace aM:=aM.mono aU.1
  replace aT:=aT.mono aU.1
  replace aN:=aN.t aU.1
  refine wfn rfl ?_
  refine esr ?_
  obtain ⟨aS,b5,h⟩:=A0 h
  have aQ:ArrM ν160 14 api_Echo.cells (Al a3 a0 a2.toNat 14) (a0-a2.toNat) aS:=fun w_ hw_=>(aM w_ hw_).cutD api_Echo.cells_len b5
  refine ro 4 4 [(0,pb cb0),(1,.slice (Al a3 a0 a2.toNat 14) aS.length (a0-a2.toNat)),(3,.func (.func 170) #[pb cb0] #[]),(6,pb b6)] hF (oX (.run [] (Instr.sliceAt 87 (sv a3 a4 a0) (some (iv a2)) none none) (.slice (Al a3 a0 a2.toNat 14) aS.length (a0-a2.toNat))) (Lv kr (aM _ (hS.frz (i:=0) rfl hlow)) (fun _=>b5))<|A1) fun a hF=>wfn rfl ?_
  refine qnB [(35,.bool (decide ((ln aS)>0)))] hF fun a hF=>?_
  refine A8 hF h (fun hc h=>?_) fun hc h=>?_
  ·refine Am ?_
   obtain ⟨a5,b8,h⟩:=A0 h
   obtain ⟨aV,b7,h⟩:=A0 h
   refine Bq 7 [5] _ (D:=fun w=>St w0 [blk cb0 138 #[sv aY aX.b aZ],arrT 5 1 (fK .u8) aY aX.b.length aZ aX.b] w∧FrzAt ν160 w) kr kr hF.size (fun w hx=>?_) (fun _ _ h=>h)
   replace hS:=hS.later hx
   refine ⟨⟨St.pick [1,2] (by decide) hS,hS.frz (i:=0) rfl hlow⟩,?_⟩
   have bK:=Frz.le_refl ν160
   have b0:ArrM ν160 14 api_Echo.cells (Al (Al a3 a0 a2.toNat 14) (a0-a2.toNat) (1:Int).toNat 14) ((a0-a2.toNat)-(1:Int).toNat) aV:=fun w_ hw_=>(aQ w_ hw_).cutD api_Echo.cells_len b7
   refine WT.s [0,1,2,3,4] [5] kr kr ?_
   refine qC 5 [(38,a5.ag),(40,.slice (Al (Al a3 a0 a2.toNat 14) (a0-a2.toNat) (1:Int).toNat 14) aV.length ((a0-a2.toNat)-(1:Int).toNat))] hF (oI 87 (aQ _ (hS.frz (i:=0) rfl hlow)) b8<|oG 149 0 14 api_Echo.cells_len (fun _ hd=>(aQ _ hd.2)) b8<|oX (.run [] (Instr.sliceAt 87 (.slice (Al a3 a0 a2.toNat 14) aS.length (a0-a2.toNat)) (some (iv 1)) none none) (.slice (Al (Al a3 a0 a2.toNat 14) (a0-a2.toNat) (1:Int).toNat 14) aV.length ((a0-a2.toNat)-(1:Int).toNat))) (Lv kr (aQ _ (hS.frz (i:=0) rfl hlow)) (fun _=>b7))<|A1) fun a hF=>?_
   refine WRun.fin ?_
   refine all_cons ?_ (Aq)
   refine qw 149 3 a5.ar hF hS rfl fun w a hF hS=>⟨⟨St.pick [1,2] (by decide) hS,(hS.frz (i:=0) rfl hlow)⟩,?_⟩
   refine WT.z [6] kr ?_
   refine rC 1 [(0,pb cb0),(1,.slice (Al (Al a3 a0 a2.toNat 14) (a0-a2.toNat) (1:Int).toNat 14) aV.length ((a0-a2.toNat)-(1:Int).toNat)),(3,.func (.func 170) #[pb cb0] #[]),(6,pb b6)] hF A1 fun a hF=>?_
   refine WRun.fin ?_
   refine wfn rfl ?_
   refine WI.region<|qo 2 2 [(41,.func (.func 170) #[pb cb0] #[]),(42,a5.ag)] hF (oN 149 3 0 14 hS.i rfl<|A1) fun a hF=>?_
   obtain ⟨bJ,bF,h⟩:=A0 h
   refine SK.wi (qR (fun bI=>[]) hF (Qd F _ _ _ bF ν160 w0 w _ hlow  hS) ?_)
   rintro bI w a ⟨ν174,bB,bC,aR,hlow,rfl,hS⟩ hF
   replace hext:=hext.t aR
   replace hA5:=hA5.mono aR.1
   replace aM:=aM.mono aR.1
   replace aT:=aT.mono aR.1
   replace aQ:=aQ.mono aR.1
   replace b0:=b0.mono aR.1
   replace aN:=aN.t aR.1
   refine WI.fin rfl (A9<|A3<|?_)
   rw [hk1] at h
   exact ⟨nk1,Nat.lt_succ_self _,a5.Kind,a5.Power.Lo,a5.Match.Lo,a5.Match.Hi,a5.Turn.Lo,a5.Turn.Hi,a5.Power.Hi,a5.Steps.1.Lo,a5.Steps.1.Hi,a5.Steps.2.Lo,a5.Steps.2.Hi,a5.Spread,a5.Ratio.Lo,a5.Ratio.Hi,bJ.b,aV,ν174,bB,bC,(Al (Al a3 a0 a2.toNat 14) (a0-a2.toNat) (1:Int).toNat 14),((a0-a2.toNat)-(1:Int).toNat),hF.sub kr,hS.s3.s3,b0,aN,hext,hlow,h⟩
  ·refine wpIn_skip (A9<|A3<|?_)
   rw [hk1] at h
   exact ⟨nk1,Nat.lt_succ_self _,a7,a8,a9,aA,aB,aC,aD,aE,aF,aG,aH,aI,aJ,aK,aX.b,aS,ν160,aY,aZ,(Al a3 a0 a2.toNat 14),(a0-a2.toNat),hF.sub kr,hS.s3.s3,aQ,aN,hext,hlow,h⟩
 ·refine wpIn_exit (A5<|A5<|Ar<|?_)
  refine Jr hF rfl ?_
  obtain rfl:=Ae h
  replace hS:=hS.d1.s2.s2
  exact ⟨_,rfl,ν120,aO,aP,hext,hlow,rfl,hS⟩
theorem Qw (F:Nat) (p0:volume_sweep) (p1:volume_writer) (res:volume_writer) (h:Gl F p0 p1=some res) (μ:Frz) (w0 w1:World) (T_:List Res) (hlow:Ax w0 μ) {ad1:Option Addr} {cap2:Nat} {css3:List (List Value)} {cb1:Nat} {ad5:Option Addr} {cap6:Nat} (hA4:ArrQ μ 1 Rp87 ad1 cap2 css3 p0.Sweep.Rays) (hS:St w0 (fz w0 μ::blk cb1 138 #[sv ad5 p1.b cap6]::arrT 5 1 (fK .u8) ad5 p1.b.length cap6 p1.b::T_) w1):Ba Tryz.prog 166 #[.agg (p0.Sweep.ax ad1 cap2),pb cb1] w1 (fun e w=>∃(ν_:Frz) (aQ:Option Addr) (aU:Nat),μ.ext w0.heap.size ν_∧Ax w0 ν_∧e=(.tuple #[])∧St w0 (fz w0 ν_::blk cb1 138 #[sv aQ res.b aU]::arrT 5 1 (fK .u8) aQ res.b.length aU res.b::T_) w):=by
 rw [Gl] at h
 have hext:=Frz.ext_refl w0.heap.size μ
 refine feW Tryz.func166 74 [(0,.agg (p0.Sweep.ax ad1 cap2)),(1,pb cb1)] hS fun a w hF hS=>?_
 refine esr<|SK.wi (qBa 156 (p0.Sweep.ax ad1 cap2) (fun b7=>[(2,pb b7)]) hF hS fun b7 w a hF hS=>wfn rfl ?_)
 refine esr<|qn 1 1 [(7,pb cb1)] hF fun a hF=>?_
 refine SK.wi (qL 3 69 1 [1] (fun b8=>[(8,sb b8 1)]) H9 hF hS fun b8 w a hF hS=>?_)
 obtain ⟨ν9,aW,hlow,hS,bD⟩:=hS.freeze (i:=2) (j:=0) rfl rfl (by decide) hlow
 replace hA4:=hA4.mono Rp87.mono aW.1
 replace hext:=hext.t aW
 have a0:=ArrM.of_arr bD
 obtain ⟨bT,b6,h⟩:=A0 h
 replace hS:=hS.s3.s3.s3
 refine SK.wi (qR (fun bH=>[]) hF (As F _ _ _ b6 ν9 w0 w _ hlow a0 hS) ?_)
 rintro bH w a ⟨ν14,bM,bP,aM,hlow,rfl,hS⟩ hF
 replace hext:=hext.t aM
 replace hA4:=hA4.mono Rp87.mono aM.1
 replace a0:=a0.mono aM.1
 refine wfn rfl ?_
 refine esr<|qo 5 5 [(10,pb cb1),(14,.string p0.Sweep.Site.Name)] hF (oL 9 3 0 hS.i rfl rfl<|A1) fun a hF=>?_
 obtain ⟨bU,b9,h⟩:=A0 h
 refine SK.wi (qR (fun bI=>[]) hF (J4 F _ _ _ b9 ν14 w0 w _ hlow  hS) ?_)
 rintro bI w a ⟨ν20,bN,bQ,aN,hlow,rfl,hS⟩ hF
 replace hext:=hext.t aN
 replace hA4:=hA4.mono Rp87.mono aN.1
 replace a0:=a0.mono aN.1
 refine wfn rfl ?_
 refine esr<|qo 9 9 [(16,pb cb1),(20,iv p0.Sweep.Site.X),(24,iv p0.Sweep.Site.Y)] hF (oL 3 3 1 hS.i rfl rfl<|oL 3 3 2 hS.i rfl rfl<|A1) fun a hF=>?_
 refine SK.wi (qL 3 69 2 [p0.Sweep.Site.X,p0.Sweep.Site.Y] (fun aR=>[(25,sb aR 2)]) H9 hF hS fun aR w a hF hS=>?_)
 obtain ⟨ν26,aO,hlow,hS,bE⟩:=hS.freeze (i:=1) (j:=0) rfl rfl (by decide) hlow
 replace hA4:=hA4.mono Rp87.mono aO.1
 replace a0:=a0.mono aO.1
 replace hext:=hext.t aO
 have a1:=ArrM.of_arr bE
 obtain ⟨bV,bA,h⟩:=A0 h
 refine SK.wi (qR (fun bJ=>[]) hF (Gr F _ _ _ bA ν26 w0 w _ hlow a1 hS) ?_)
 rintro bJ w a ⟨ν31,bO,bR,aI,hlow,rfl,hS⟩ hF
 replace hext:=hext.t aI
 replace hA4:=hA4.mono Rp87.mono aI.1
 replace a0:=a0.mono aI.1
 replace a1:=a1.mono aI.1
 refine wfn rfl ?_
 refine esr<|qo 27 27 [(27,pb cb1),(31,iv p0.Sweep.Site.Z),(35,iv p0.Sweep.Site.Rose),(39,iv p0.Sweep.Site.Gates),(43,iv p0.Sweep.Site.Step),(47,iv p0.Sweep.Site.Width),(50,iv p0.Sweep.Tilt),(53,iv p0.Sweep.Time)] hF (oL 3 3 3 hS.i rfl rfl<|oL 3 3 4 hS.i rfl rfl<|oL 3 3 5 hS.i rfl rfl<|oL 3 3 6 hS.i rfl rfl<|oL 3 3 7 hS.i rfl rfl<|oL 3 3 8 hS.i rfl rfl<|oL 3 3 9 hS.i rfl rfl<|A1) fun a hF=>?_
 refine SK.wi (qL 3 69 7 [p0.Sweep.Site.Z,p0.Sweep.Site.Rose,p0.Sweep.Site.Gates,p0.Sweep.Site.Step,p0.Sweep.Site.Width,p0.Sweep.Tilt,p0.Sweep.Time] (fun aS=>[(54,sb aS 7)]) H9 hF hS fun aS w a hF hS=>?_)
 obtain ⟨ν37,aJ,hlow,hS,bF⟩:=hS.freeze (i:=1) (j:=0) rfl rfl (by decide) hlow
 replace hA4:=hA4.mono Rp87.mono aJ.1
 replace a0:=a0.mono aJ.1
 replace a1:=a1.mono aJ.1
 replace hext:=hext.t aJ
 have a4:=ArrM.of_arr bF
 obtain ⟨a2,bB,h⟩:=A0 h
 refine SK.wi (qR (fun bK=>[]) hF (As F _ _ _ bB ν37 w0 w _ hlow a4 hS) ?_)
 rintro bK w a ⟨ν42,aE,aG,aC,hlow,rfl,hS⟩ hF
 replace hext:=hext.t aC
 replace hA4:=hA4.mono Rp87.mono aC.1
 replace a0:=a0.mono aC.1
 replace a1:=a1.mono aC.1
 replace a4:=a4.mono aC.1
 refine wfn rfl ?_
 refine qnB [(4,.slice none 0 0)] hF fun a hF=>?_
 refine Dx (fun a w=>∃(a6:(List api_Echo)) (aF:Option Addr) (aH:Nat),Fr 74 [] [(1,pb cb1),(4,sv aF a6 aH)] a∧St w0 (arr 149 14 api_Echo.cells aF a6.length aH a6::fz w0 ν42::blk cb1 138 #[sv aE a2.b aG]::arrT 5 1 (fK .u8) aE a2.b.length aG a2.b::blk b7 156 (p0.Sweep.ax ad1 cap2)::T_) w∧Gp F a2 a6=some res) ?_ ?_
 ·skip
  refine qoB [(58,sv ad1 p0.Sweep.Rays cap2),(59,iv (ln p0.Sweep.Rays)),(60,iv 0)] hF (oL 39 3 10 hS.i rfl rfl<|A1) fun a hF=>?_
  refine wpIn_block ?_
  replace hS:=hS.nilarr 149 14 api_Echo.cells
  refine Ck (fun n_ a w=>∃(a3:(List api_Echo)) (a7:Int) (a8:Option Addr) (aA:Nat),Fr 74 [] [(1,pb cb1),(4,sv a8 a3 aA),(58,sv ad1 p0.Sweep.Rays cap2),(59,iv (ln p0.Sweep.Rays)),(60,iv a7)] a∧St w0 (arr 149 14 api_Echo.cells a8 a3.length aA a3::fz w0 ν42::blk cb1 138 #[sv aE a2.b aG]::arrT 5 1 (fK .u8) aE a2.b.length aG a2.b::blk b7 156 (p0.Sweep.ax ad1 cap2)::T_) w∧E9 F p0 a2 n_ a3 a7=some res) F ⟨[],0,none,0,hF.sub kr,hS,h⟩ ?_
  rintro nk2 a w ⟨a3,a7,a8,aA,hF,hS,h⟩
  rcases nk2 with _|nk2
  ·cases (show (none:Option volume_writer)=some res from h)
  obtain ⟨k2,hk2⟩:∃k,k=E9 F p0 a2 nk2:=⟨_,rfl⟩
  replace h:Gn F p0 a2 k2 a3 a7=some res:=by rw [hk2];exact h
  rw [Gn] at h
  refine qnB [(61,.bool (decide (a7<(ln p0.Sweep.Rays))))] hF fun a hF=>?_
  refine Am<|A8 hF h (fun hc h=>?_) fun hc h=>?_
  ·refine wK<|Am<|wpIn_block<|esr ?_
   obtain ⟨aX,b4,h⟩:=A0 h
   obtain ⟨bS,aV,b2⟩:=Cw hA4.2 b4
   obtain ⟨aP,aT,rfl,b1⟩:=b2
   refine qo 3 3 [(6,sv aP aX aT)] hF (oI 39 (hA4.at (hS.frz (i:=1) rfl hlow)) aV<|oE 87 0 (Dg 1) (fun _ hd=>(hA4.at ((hS.at_ hd).frz (i:=1) rfl hlow))) aV rfl<|A1) fun a hF=>wfn rfl ?_
   refine WI.region<|qn 2 2 [(64,sv a8 a3 aA),(65,sv aP aX aT)] hF fun a hF=>?_
   obtain ⟨aK,b3,h⟩:=A0 h
   refine SK.wi (qP 87 87 0 (fun a9 aB=>[(66,sv a9 aK aB)]) hF hS (b1 _ (hS.frz (i:=1) rfl hlow)) b3 rfl fun a9 aB w a hF hS=>?_)
   refine rn 1 4 [(1,pb cb1),(4,sv a9 aK aB),(58,sv ad1 p0.Sweep.Rays cap2),(59,iv (ln p0.Sweep.Rays)),(60,iv a7)] hF fun a hF=>WI.fin rfl (A9<|A3<|?_)
   refine WI.region ?_
   obtain ⟨aY,b5,h⟩:=A0 h
   refine ro 2 2 [(1,pb cb1),(4,sv a9 aK aB),(58,sv ad1 p0.Sweep.Rays cap2),(59,iv (ln p0.Sweep.Rays)),(60,iv aY)] hF (oA 3 b5<|A1) fun a hF=>wfn rfl ?_
   rw [hk2] at h
   exact ⟨nk2,Nat.lt_succ_self _,aK,aY,a9,aB,hF.sub kr,hS,h⟩
  ·refine wpIn_exit (A5<|A5<|Ar<|A3 ?_)
   exact ⟨a3,a8,aA,hF.sub kr,hS,h⟩
 rintro a w ⟨a6,aF,aH,hF,hS,h⟩
 rw [Gp] at h
 refine WI.region<|rn 5 5 [(68,pb cb1),(69,sv aF a6 aH),(70,.agg #[iv 1,iv 0,iv 0,iv 0,iv 0,iv 0,iv 0,iv 0,iv 0,iv 0,iv 0,iv 0,iv 0,iv 0]),(72,.func (.func 170) #[pb cb1] #[])] hF fun a hF=>?_
 obtain ⟨ν92,aD,hlow,hS,bG⟩:=hS.freeze (i:=1) (j:=0) rfl rfl (by decide) hlow
 replace hA4:=hA4.mono Rp87.mono aD.1
 replace a0:=a0.mono aD.1
 replace a1:=a1.mono aD.1
 replace a4:=a4.mono aD.1
 replace hext:=hext.t aD
 have aL:=ArrM.of_arr bG
 obtain ⟨bW,bC,h⟩:=A0 h
 refine SK.wi (rR (fun bL=>[]) hF (Ky F _ _ _ _ bC ν92 w0 w _ hlow aL hS) ?_)
 rintro bL w a ⟨ν97,aZ,b0,a5,hlow,rfl,hS⟩ hF
 replace hext:=hext.t a5
 replace hA4:=hA4.mono Rp87.mono a5.1
 replace a0:=a0.mono a5.1
 replace a1:=a1.mono a5.1
 replace a4:=a4.mono a5.1
 replace aL:=aL.mono a5.1
 refine WI.fin rfl ?_
 refine Jr hF rfl ?_
 obtain rfl:=Ae h
 replace hS:=hS.d3
 exact ⟨_,rfl,ν97,aZ,b0,hext,hlow,rfl,hS⟩
end Go.Proofs.YtifbomimeodibaaGreat
