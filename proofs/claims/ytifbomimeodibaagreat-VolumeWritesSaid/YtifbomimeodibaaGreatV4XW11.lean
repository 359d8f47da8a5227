import Derived.Test.YtifbomimeodibaaGreatV4XD
import Derived.Test.YtifbomimeodibaaGreatProg
import Derived.Test.YtifbomimeodibaaGreatV4XW0
import Derived.Test.YtifbomimeodibaaGreatV4XW1
import Derived.Test.YtifbomimeodibaaGreatV4XW2
import Derived.Test.YtifbomimeodibaaGreatV4XW3
import Derived.Test.YtifbomimeodibaaGreatV4XW6
import Derived.Test.YtifbomimeodibaaGreatV4XW8
import Derived.Test.YtifbomimeodibaaGreatV4XW9
import Derived.Test.YtifbomimeodibaaGreatV4XW10
namespace Go.Proofs.YtifbomimeodibaaGreat
open Go Go.RowKit Go.Eng
set_option maxRecDepth 10000
set_option maxHeartbeats 4000000
set_option linter.unusedVariables false
set_option linter.unusedSimpArgs false
theorem P7 (F:Nat) (p0:volume_thing) (res:Int) (h:D5 F p0=some res) (μ:Frz) (w0:World) (hm:FrzAt μ w0) {v:Value} (hv:volume_thing.R μ v p0):Zj Tryz.prog v "radome/volume.check" #[] (fun f gs=>Bd Tryz.prog f gs w0 (fun e w=>e=(iv res)∧Ext w0 w)):=by
 cases p0 with
 | nil_=>cases h
 | ic156 y =>
  obtain ⟨cs,rfl,hr⟩:=hv
  obtain ⟨ad1,cap2,css3,rfl,hA4⟩:=hr
  exact ⟨162,#[.agg (y.Sweep.ax ad1 cap2)],by kernel_rfl,(Calls.toR (Ki F y _ h μ w0 hm hA4))⟩
 | ic158 y =>
  obtain ⟨cs,rfl,hr⟩:=hv
  obtain ⟨ad5,cap6,rfl,hA7⟩:=hr
  exact ⟨176,#[.agg (y.ax ad5 cap6)],by kernel_rfl,(Calls.toR (Kh F y _ h μ w0 hm hA7))⟩
 | ic160 y =>
  obtain ⟨cs,rfl,hr⟩:=hv
  obtain rfl:=hr
  exact ⟨184,#[.agg #[iv y.time,.string y.text]],by kernel_rfl,(Calls.toR (Lc F y _ h μ w0 hm))⟩
theorem Nb (F:Nat) (p0:(List Int)) (res:(volume_thing×Int)) (h:L7 F p0=some res) (μ:Frz) (w0:World) (hm:FrzAt μ w0) {ad1:Option Addr} {cap2:Nat} (hA3:ArrM μ 1 (fK .u8) ad1 cap2 p0):Bd Tryz.prog 36 #[sv ad1 p0 cap2] w0 (fun e w=>∃(ν_:Frz) (aW:Value),μ.ext w0.heap.size ν_∧e=(.tuple #[aW,iv res.2])∧volume_thing.R ν_ aW res.1∧St w0 [fz w0 ν_] w):=by
 obtain ⟨hlow,hS⟩:=hm.init
 have hext:=Frz.ext_refl w0.heap.size μ
 rw [L7] at h
 refine Uf Tryz.func36 rfl 64 [(0,sv ad1 p0 cap2)] rfl rfl kr fun a w hw hF=>?_
 replace hS:=hS.cast hw
 clear hw
 refine esr<|SK.wi (rA 80 #[.nilIface] (fun b4=>[(0,sv ad1 p0 cap2),(2,pb b4)]) hF hS fun b4 w a hF hS=>?_)
 refine SK.wi (qA 25 #[iv 0] (fun b5=>[(3,pb b5)]) hF hS fun b5 w a hF hS=>wfn rfl ?_)
 refine esr<|qn 2 2 [(8,.agg #[sv ad1 p0 cap2])] hF fun a hF=>?_
 refine SK.wi (qBa 125 #[sv ad1 p0 cap2] (fun b6=>[(9,pb b6)]) hF hS fun b6 w a hF hS=>?_)
 refine qn 1 4 [(4,pb b6)] hF fun a hF=>wfn rfl ?_
 refine esr<|qn 1 1 [(11,pb b6)] hF fun a hF=>?_
 obtain ⟨y7,hy7,h⟩:=A0 h
 replace hS:=hS.s3
 refine SK.wi (qR (fun aS=>[(12,aS)]) hF (J0 F _ _ hy7 μ w0 w _ hlow hA3 hS) ?_)
 rintro aS w a ⟨ν8,a7,a2,hx9,hlow,rfl,a8,hS⟩ hF
 replace hext:=hext.t hx9
 replace hA3:=hA3.mono hx9.1
 refine qn 5 7 [(5,iv y7.1),(6,.bool y7.2.1)] hF fun a hF=>wfn rfl ?_
 refine Ak<|Ak<|Bm 27 [23,24] _ (D:=fun w=>St w0 [blk b6 125 #[sv a7 y7.2.2.b a2],blk b5 25 #[iv 0],blk b4 80 #[.nilIface]] w∧FrzAt ν8 w) kr kr hF.size (fun w hx=>?_) (fun _ _ h=>h)
 replace hS:=hS.later hx
 refine ⟨⟨St.pick [1,2,3] (by decide) hS,hS.frz (i:=0) rfl hlow⟩,?_⟩
 have aH:=Frz.le_refl ν8
 refine WT.s [0,1,2,3,4,5,6,7,8,9,10,11,12,13,14,15,16,17,18,19,20,21,22] [23] kr kr ?_
 refine qC 3 [(17,.bool (!y7.2.1))] hF A3 fun a hF=>?_
 rcases Bool.eq_false_or_eq_true ((!y7.2.1)) with aC|aC
 ·replace h:=Jq h aC
  rw [aC] at hF
  refine qkW [(17,.bool true),(18,undef)] hF fun a hF=>?_
  refine qkW [(19,undef)] hF fun a hF=>?_
  refine qkW [(20,undef)] hF fun a hF=>?_
  refine qkW [(21,undef)] hF fun a hF=>?_
  refine qkW [(22,undef)] hF fun a hF=>?_
  refine qkW [(23,undef)] hF fun a hF=>?_
  refine qkW [(24,undef)] hF fun a hF=>?_
  refine qkW [(25,undef)] hF fun a hF=>?_
  refine qC 2 [(27,.bool true)] hF A3 fun a hF=>?_
  refine qkW [(28,undef)] hF fun a hF=>?_
  refine qkW [(29,undef)] hF fun a hF=>?_
  refine qkW [(30,undef)] hF fun a hF=>?_
  refine qkW [(31,undef)] hF fun a hF=>?_
  refine qkW [(32,undef)] hF fun a hF=>?_
  refine qkW [(33,undef)] hF fun a hF=>?_
  refine qkW [(34,undef)] hF fun a hF=>?_
  refine qkW [(35,undef)] hF fun a hF=>?_
  refine qkW [(36,undef)] hF fun a hF=>?_
  refine qkW [(37,undef)] hF fun a hF=>?_
  refine WRun.fin ?_
  refine all_cons ?_ Am
  refine qkS [(38,undef)] hF fun a hF=>?_
  refine ⟨⟨St.pick [1,2,3] (by decide) hS,(hS.frz (i:=0) rfl hlow)⟩,?_⟩
  refine WT.s [] [24] kr kr ?_
  refine WRun.fin ?_
  refine all_cons ?_ Am
  refine qkS [(39,undef)] hF fun a hF=>?_
  refine ⟨⟨St.pick [1,2,3] (by decide) hS,(hS.frz (i:=0) rfl hlow)⟩,?_⟩
  refine WT.z [25,26] kr ?_
  refine qkW [(40,undef)] hF fun a hF=>?_
  refine qC 1 [(41,.bool true)] hF A3 fun a hF=>?_
  refine WRun.fin ?_
  refine wfn rfl ?_
  refine wpIn_cond_true (hF.get rfl) ?_
  refine esr<|SK.wi (qs 80 3 0 (.nilIface) hF hS rfl fun w a hF hS=>?_)
  refine SK.wi (qs 25 2 0 (iv 15) hF hS rfl fun w a hF hS=>wfn rfl ?_)
  refine wpIn_ret (A2<|T8 [.cell 2 80,.cell 3 25] [_,_] hF rfl ⟨⟨_,rfl,B9 kr (hS.cell (i:=3) (j:=0) rfl rfl)⟩,⟨_,rfl,B9 kr (hS.cell (i:=2) (j:=0) rfl rfl)⟩,trivial⟩ ?_)
  obtain rfl:=Ai h
  exact ⟨_,rfl,ν8,.nilIface,hext,rfl,(show volume_thing.R _ .nilIface .nil_ from rfl),St.pick [0] (by decide) hS⟩
 ·replace h:=Jp h aC
  rw [aC] at hF
  obtain ⟨aX,b2,h⟩:=A0 h
  refine qC 10 [(27,.bool ((ln y7.2.2.b) != aX))] hF (oGs [⟨17,false,false⟩] (oL 22 0 0 (fun _ hd=>hd.1) rfl rfl<|oA 3 b2<|A3)<|A3) fun a hF=>?_
  rcases Bool.eq_false_or_eq_true (((ln y7.2.2.b) != aX)) with aD|aD
  ·replace h:=Jq h aD
   rw [aD] at hF
   refine qkW [(27,.bool true),(28,undef)] hF fun a hF=>?_
   refine qkW [(29,undef)] hF fun a hF=>?_
   refine qkW [(30,undef)] hF fun a hF=>?_
   refine qkW [(31,undef)] hF fun a hF=>?_
   refine qkW [(32,undef)] hF fun a hF=>?_
   refine qkW [(33,undef)] hF fun a hF=>?_
   refine qkW [(34,undef)] hF fun a hF=>?_
   refine qkW [(35,undef)] hF fun a hF=>?_
   refine qkW [(36,undef)] hF fun a hF=>?_
   refine qkW [(37,undef)] hF fun a hF=>?_
   refine WRun.fin ?_
   refine all_cons ?_ Am
   refine qkS [(38,undef)] hF fun a hF=>?_
   refine ⟨⟨St.pick [1,2,3] (by decide) hS,(hS.frz (i:=0) rfl hlow)⟩,?_⟩
   refine WT.s [] [24] kr kr ?_
   refine WRun.fin ?_
   refine all_cons ?_ Am
   refine qkS [(39,undef)] hF fun a hF=>?_
   refine ⟨⟨St.pick [1,2,3] (by decide) hS,(hS.frz (i:=0) rfl hlow)⟩,?_⟩
   refine WT.z [25,26] kr ?_
   refine qkW [(40,undef)] hF fun a hF=>?_
   refine qC 1 [(41,.bool true)] hF A3 fun a hF=>?_
   refine WRun.fin ?_
   refine wfn rfl ?_
   refine wpIn_cond_true (hF.get rfl) ?_
   refine esr<|SK.wi (qs 80 3 0 (.nilIface) hF hS rfl fun w a hF hS=>?_)
   refine SK.wi (qs 25 2 0 (iv 15) hF hS rfl fun w a hF hS=>wfn rfl ?_)
   refine wpIn_ret (A2<|T8 [.cell 2 80,.cell 3 25] [_,_] hF rfl ⟨⟨_,rfl,B9 kr (hS.cell (i:=3) (j:=0) rfl rfl)⟩,⟨_,rfl,B9 kr (hS.cell (i:=2) (j:=0) rfl rfl)⟩,trivial⟩ ?_)
   obtain rfl:=Ai h
   exact ⟨_,rfl,ν8,.nilIface,hext,rfl,(show volume_thing.R _ .nilIface .nil_ from rfl),St.pick [0] (by decide) hS⟩
  ·replace h:=Jp h aD
   rw [aD] at hF
   obtain ⟨a3,b3,h⟩:=A0 h
   obtain ⟨a6,aP,h⟩:=A0 h
   have a9:ArrM ν8 1 (fK .u8) (Ar ad1 cap2 a3.toNat 1) (cap2-a3.toNat) a6:=fun w_ hw_=>(hA3 w_ hw_).cutD (Bs .u8) aP
   obtain ⟨aY,b7,h⟩:=A0 h
   obtain ⟨aI,aQ,h⟩:=A0 h
   have aA:ArrM ν8 1 (fK .u8) (Ar ad1 cap2 (0:Int).toNat 1) (cap2-(0:Int).toNat) aI:=fun w_ hw_=>(hA3 w_ hw_).cutD (Bs .u8) aQ
   refine X5 (rest:=[]) (obs:=[.run [⟨27,false,false⟩] (binOp .sub 3 (iv (ln p0)) (iv 5)) (iv a3),.run [⟨27,false,false⟩] (Instr.sliceAt 22 (sv ad1 p0 cap2) (some (iv a3)) none none) (.slice (Ar ad1 cap2 a3.toNat 1) a6.length (cap2-a3.toNat)),.run [⟨27,false,false⟩] (binOp .sub 3 (iv (ln p0)) (iv 5)) (iv aY),.run [⟨27,false,false⟩] (Instr.sliceAt 22 (sv ad1 p0 cap2) none (some (iv aY)) none) (.slice (Ar ad1 cap2 (0:Int).toNat 1) aI.length (cap2-(0:Int).toNat))]) [13,14,15,16,17,18,19,20,21,22] [(2,⟨[],pb b4⟩),(3,⟨[],pb b5⟩),(4,⟨[],pb b6⟩),(5,⟨[],iv y7.1⟩),(27,⟨[],.bool false⟩),(32,⟨[⟨27,false,false⟩],.slice (Ar ad1 cap2 a3.toNat 1) a6.length (cap2-a3.toNat)⟩),(37,⟨[⟨27,false,false⟩],.slice (Ar ad1 cap2 (0:Int).toNat 1) aI.length (cap2-(0:Int).toNat)⟩)] hF kr kr (H0 (Tl (fun _=>b3)) (H0 (Mv kr (hA3 _ (hS.frz (i:=0) rfl hlow)) (fun _=>aP)) (H0 (Tl (fun _=>b7)) (H0 (Tk kr (hA3 _ (hS.frz (i:=0) rfl hlow)) (fun _=>aQ)) A3)))) ⟨kr⟩ kr fun a hF=>?_
   replace hF:Fr 64 [] [(2,pb b4),(3,pb b5),(4,pb b6),(5,iv y7.1),(27,.bool false),(32,.slice (Ar ad1 cap2 a3.toNat 1) a6.length (cap2-a3.toNat)),(37,.slice (Ar ad1 cap2 (0:Int).toNat 1) aI.length (cap2-(0:Int).toNat))] a:=hF
   refine WRun.fin ?_
   refine all_cons ?_ Am
   obtain ⟨a1,b8,h⟩:=A0 h
   refine qR (fun aT=>[(38,aT)]) hF (Qj F _ _ b8 (Av w) w (A1 w) (aA.mono (FrzAt.le_mem (hS.frz (i:=0) rfl hlow)))) ?_
   rintro aT w a ⟨aE,aF,rfl,hQ⟩ hF
   replace hS:=hS.madeL hQ
   refine ⟨⟨St.pick [2,3,4] (by decide) hS,(hS.frz (i:=1) rfl hlow)⟩,?_⟩
   refine WT.s [] [24] kr kr ?_
   refine WRun.fin ?_
   refine all_cons ?_ Am
   refine Wu [(2,pb b4),(3,pb b5),(4,pb b6),(5,iv y7.1),(27,.bool false),(39,.bool (H3 a6 a1))] hF kr ⟨kr⟩ (P9 a6 a1 _ rfl (Av w) w (A1 w) (a9.mono (FrzAt.le_mem (hS.frz (i:=1) rfl hlow))) (Arr.toM (hS.arr (i:=0) rfl))) ⟨kr⟩ ?_
   intro w a hx hF
   replace hS:=hS.later hx
   refine ⟨⟨St.pick [2,3,4] (by decide) hS,(hS.frz (i:=1) rfl hlow)⟩,?_⟩
   refine WT.z [25,26] kr ?_
   refine rC 2 [(2,pb b4),(3,pb b5),(4,pb b6),(5,iv y7.1),(41,.bool (!(H3 a6 a1)))] hF A3 fun a hF=>?_
   refine WRun.fin ?_
   refine wfn rfl ?_
   refine A8 hF h (fun hc h=>?_) fun hc h=>?_
   ·refine esr<|SK.wi (qs 80 4 0 (.nilIface) hF hS rfl fun w a hF hS=>?_)
    refine SK.wi (qs 25 3 0 (iv 15) hF hS rfl fun w a hF hS=>wfn rfl ?_)
    refine wpIn_ret (A2<|T8 [.cell 2 80,.cell 3 25] [_,_] hF rfl ⟨⟨_,rfl,B9 kr (hS.cell (i:=4) (j:=0) rfl rfl)⟩,⟨_,rfl,B9 kr (hS.cell (i:=3) (j:=0) rfl rfl)⟩,trivial⟩ ?_)
    obtain rfl:=Ai h
    exact ⟨_,rfl,ν8,.nilIface,hext,rfl,(show volume_thing.R _ .nilIface .nil_ from rfl),St.pick [1] (by decide) hS⟩
   ·refine wK<|esr ?_
    obtain ⟨aJ,aR,h⟩:=A0 h
    have aB:ArrM ν8 1 (fK .u8) (Ar a7 a2 (0:Int).toNat 1) (a2-(0:Int).toNat) aJ:=fun w_ hw_=>(a8 w_ hw_).cutD (Bs .u8) aR
    refine qo 9 9 [(48,.slice (Ar a7 a2 (0:Int).toNat 1) aJ.length (a2-(0:Int).toNat)),(50,pb b6)] hF (oL 22 2 0 hS.i rfl rfl<|oX (.run [] (Instr.sliceAt 22 (sv a7 y7.2.2.b a2) none (some (iv y7.1)) none) (.slice (Ar a7 a2 (0:Int).toNat 1) aJ.length (a2-(0:Int).toNat))) (Tk kr (a8 _ (hS.frz (i:=1) rfl hlow)) (fun _=>aR))<|A3) fun a hF=>?_
    refine SK.wi (qs 22 2 0 (.slice (Ar a7 a2 (0:Int).toNat 1) aJ.length (a2-(0:Int).toNat)) hF hS rfl fun w a hF hS=>wfn rfl ?_)
    refine esr<|qn 1 1 [(51,.func (.func 69) #[] #[pb b4,pb b5])] hF fun a hF=>?_
    refine Ya 2 ⟨.fn (.func 69) #[pb b4,pb b5],#[]⟩ [(2,pb b4),(3,pb b5),(4,pb b6)] hF kr ⟨kr⟩ ⟨kr⟩ rfl fun a hF=>wfn rfl ?_
    refine esr<|rn 1 1 [(2,pb b4),(3,pb b5),(4,pb b6),(52,pb b6)] hF fun a hF=>?_
    obtain ⟨bH,b9,h⟩:=A0 h
    replace hS:=hS.s2.s2
    refine D6 (fun aU=>[(2,pb b4),(3,pb b5),(4,pb b6),(53,aU)]) hF kr ⟨kr⟩ (N6 F _ _ b9 ν8 w0 w _ hlow aB hS) (fun _=>⟨kr⟩) ?_ ?_
    ·rintro b1 w he_ ⟨ν42,aZ,b0,a5,hlow,bG,hS⟩
     replace h:=Fe h he_
     replace hext:=hext.t a5
     replace hA3:=hA3.mono a5.1
     replace a8:=a8.mono a5.1
     replace a9:=a9.mono a5.1
     replace aA:=aA.mono a5.1
     replace aB:=aB.mono a5.1
     replace aH:=aH.t a5.1
     obtain ⟨aN,bC,h⟩:=A0 h
     rw [Vz bC]
     refine A5<|Qo [.cell 2 80,.cell 3 25] hF rfl (fun _=>by kernel_rfl) ?_
     refine CallsDIn.mono (Mn .nilIface 0 aN (by simpa using St.pick [4,3,0,1,2] (by decide) hS)) ?_
     rintro e u_ w ⟨rfl,hu_,hS⟩
     replace hS:St w0 [blk b4 80 #[.nilIface],blk b5 25 #[iv aN],fz w0 ν42,blk b6 125 #[sv aZ b1.2.b b0],arr 5 1 (fK .u8) aE a1.length aF a1] w:=hS
     refine ⟨_,rfl,hu_,[.nilIface,iv aN],⟨⟨_,rfl,B9 kr (hS.cell (i:=0) (j:=0) rfl rfl)⟩,⟨_,rfl,B9 kr (hS.cell (i:=1) (j:=0) rfl rfl)⟩,trivial⟩,?_⟩
     obtain rfl:=Ai h
     exact ⟨_,rfl,ν42,.nilIface,hext,rfl,(show volume_thing.R _ .nilIface .nil_ from rfl),St.pick [2] (by decide) hS⟩
    rintro aK aU w a he_ ⟨ν34,a0,aL,aM,a4,hlow,hv_,aG,bF,hS⟩ hF
    replace h:=Ff h he_
    try rw [hv_] at hF
    replace hext:=hext.t a4
    replace hA3:=hA3.mono a4.1
    replace a8:=a8.mono a4.1
    replace a9:=a9.mono a4.1
    replace aA:=aA.mono a4.1
    replace aB:=aB.mono a4.1
    replace aH:=aH.t a4.1
    refine SK.wi (X7 (t:=80) [(2,pb b4),(3,pb b5),(4,pb b6)] 4 0 a0 #[a0] aG.one hF hS rfl kr ⟨kr⟩ kr kr kr ⟨kr⟩ fun w a hF hS=>wfn rfl ?_)
    refine esr<|ro 1 1 [(2,pb b4),(3,pb b5),(4,pb b6),(54,a0)] hF (oL 80 4 0 hS.i rfl rfl<|A3) fun a hF=>?_
    obtain ⟨bI,bA,h⟩:=A0 h
    refine SK.wi (Wv (fun aV=>[(2,pb b4),(3,pb b5),(4,pb b6),(55,aV)]) hF kr ⟨kr⟩ (P7 F _ _ bA (Av w) w (A1 w) (aG.mono (FrzAt.le_mem (hS.frz (i:=0) rfl hlow)))) (fun _=>⟨kr⟩) ?_)
    rintro aV w a ⟨rfl,hx⟩ hF
    replace hS:=hS.later hx
    obtain ⟨bJ,bB,h⟩:=A0 h
    refine Y6 (fun bE=>[(2,pb b4),(3,pb b5),(4,pb b6)]) hF kr ⟨kr⟩ (Mi F _ _ bB (Av w) w (A1 w)) (fun _=>⟨kr⟩) ?_ ?_
    ·intro v_ w he_ hx
     replace hS:=hS.later hx
     replace h:=Fe h he_
     obtain ⟨aO,bD,h⟩:=A0 h
     rw [Vz bD]
     refine A5<|Qo [.cell 2 80,.cell 3 25] hF rfl (fun _=>by kernel_rfl) ?_
     refine CallsDIn.mono (Mn a0 0 aO (by simpa using St.pick [4,3,0,1,2] (by decide) hS)) ?_
     rintro e u_ w ⟨rfl,hu_,hS⟩
     replace hS:St w0 [blk b4 80 #[.nilIface],blk b5 25 #[iv aO],fz w0 ν34,blk b6 125 #[sv aL aK.2.b aM],arr 5 1 (fK .u8) aE a1.length aF a1] w:=hS
     refine ⟨_,rfl,hu_,[.nilIface,iv aO],⟨⟨_,rfl,B9 kr (hS.cell (i:=0) (j:=0) rfl rfl)⟩,⟨_,rfl,B9 kr (hS.cell (i:=1) (j:=0) rfl rfl)⟩,trivial⟩,?_⟩
     obtain rfl:=Ai h
     exact ⟨_,rfl,ν34,.nilIface,hext,rfl,(show volume_thing.R _ .nilIface .nil_ from rfl),St.pick [2] (by decide) hS⟩
    rintro bK bE w a he_ ⟨rfl,hx⟩ hF
    replace h:=Ff h he_
    replace hS:=hS.later hx
    refine wfn rfl ?_
    refine Ak<|roB [(2,pb b4),(3,pb b5),(62,.bool (decide ((ln aK.2.b)>0)))] hF (oL 22 1 0 hS.i rfl rfl<|A3) fun a hF=>?_
    refine A8 hF h (fun hc h=>?_) fun hc h=>?_
    ·refine esr<|SK.wi (qs 80 4 0 (.nilIface) hF hS rfl fun w a hF hS=>?_)
     refine SK.wi (qs 25 3 0 (iv 7) hF hS rfl fun w a hF hS=>wfn rfl ?_)
     refine wpIn_ret (A2<|T9 [.cell 2 80,.cell 3 25] hF rfl (fun _=>by kernel_rfl) ?_)
     refine CallsDIn.mono (Mm .nilIface 7 (by simpa using St.pick [4,3,0,1,2] (by decide) hS)) ?_
     rintro e u_ w ⟨rfl,hu_,hS⟩
     replace hS:St w0 [blk b4 80 #[.nilIface],blk b5 25 #[iv 7],fz w0 ν34,blk b6 125 #[sv aL aK.2.b aM],arr 5 1 (fK .u8) aE a1.length aF a1] w:=hS
     refine ⟨_,rfl,hu_,[.nilIface,iv 7],⟨⟨_,rfl,B9 kr (hS.cell (i:=0) (j:=0) rfl rfl)⟩,⟨_,rfl,B9 kr (hS.cell (i:=1) (j:=0) rfl rfl)⟩,trivial⟩,?_⟩
     obtain rfl:=Ai h
     exact ⟨_,rfl,ν34,.nilIface,hext,rfl,(show volume_thing.R _ .nilIface .nil_ from rfl),St.pick [2] (by decide) hS⟩
    ·refine wK<|esr<|qo 1 1 [(63,a0)] hF (oL 80 4 0 hS.i rfl rfl<|A3) fun a hF=>?_
     refine SK.wi (X7 (t:=80) [(2,pb b4),(3,pb b5)] 4 0 a0 #[a0] aG.one hF hS rfl kr ⟨kr⟩ kr kr kr ⟨kr⟩ fun w a hF hS=>?_)
     refine SK.wi (Mx (t:=25) [(2,pb b4),(3,pb b5)] 3 0 (iv 0) #[iv 0] hF hS rfl kr ⟨kr⟩ kr kr kr kr ⟨kr⟩ fun w a hF hS=>wfn rfl ?_)
     refine wpIn_ret (T9 [.cell 2 80,.cell 3 25] hF rfl (fun _=>by kernel_rfl) ?_)
     refine CallsDIn.mono (Mm a0 0 (by simpa using St.pick [4,3,0,1,2] (by decide) hS)) ?_
     rintro e u_ w ⟨rfl,hu_,hS⟩
     replace hS:St w0 [blk b4 80 #[a0],blk b5 25 #[iv 0],fz w0 ν34,blk b6 125 #[sv aL aK.2.b aM],arr 5 1 (fK .u8) aE a1.length aF a1] w:=hS
     refine ⟨_,rfl,hu_,[a0,iv 0],⟨⟨_,rfl,B9 kr (hS.cell (i:=0) (j:=0) rfl rfl)⟩,⟨_,rfl,B9 kr (hS.cell (i:=1) (j:=0) rfl rfl)⟩,trivial⟩,?_⟩
     obtain rfl:=Ai h
     exact ⟨_,rfl,ν34,a0,hext,rfl,aG,St.pick [2] (by decide) hS⟩
theorem Mu (F:Nat) (p0:volume_Item) (res:(volume_thing×Int)) (h:Dc F p0=some res) (μ:Frz) (w0:World) (hm:FrzAt μ w0) {ad1:Option Addr} {cap2:Nat} {css3:List (List Value)} {ad4:Option Addr} {cap5:Nat} (hA6:ArrQ μ 1 Rp87 ad1 cap2 css3 p0.Sweep.Rays) (hA7:ArrM μ 2 api_Span.cells ad4 cap5 p0.Field.Vals):Bd Tryz.prog 41 #[.agg (p0.ax ad1 cap2 ad4 cap5)] w0 (fun e w=>∃(ν_:Frz) (aB:Value),μ.ext w0.heap.size ν_∧e=(.tuple #[aB,iv res.2])∧volume_thing.R ν_ aB res.1∧St w0 [fz w0 ν_] w):=by
 obtain ⟨hlow,hS⟩:=hm.init
 have hext:=Frz.ext_refl w0.heap.size μ
 rw [Dc] at h
 refine feW Tryz.func41 12 [(0,.agg (p0.ax ad1 cap2 ad4 cap5))] hS fun a w hF hS=>?_
 refine esr<|SK.wi (qBa 48 (p0.ax ad1 cap2 ad4 cap5) (fun b8=>[(1,pb b8)]) hF hS fun b8 w a hF hS=>?_)
 refine qn 2 3 [] hF fun a hF=>wfn rfl ?_
 refine esr<|ro 1 1 [(5,.agg (p0.ax ad1 cap2 ad4 cap5))] hF (oN 48 0 0 21 hS.i rfl<|A3) fun a hF=>?_
 refine SK.wi (rR (fun v9=>[(6,v9)]) hF (V7 p0 _ rfl μ w (hS.frz (i:=1) rfl hlow) hA6 hA7) ?_)
 rintro v9 w a ⟨ν10,aA,a7,hv_,a1,hQ⟩ hF
 try rw [hv_] at hF
 replace hext:=hext.t (Frz.ext_mono a7 hS.ext.size)
 obtain ⟨hlow,hS⟩:=hS.frzMerge (i:=1) rfl hlow a7 hQ
 replace hA6:=hA6.mono Rp87.mono a7.1
 replace hA7:=hA7.mono a7.1
 refine rn 1 3 [(4,aA)] hF fun a hF=>wfn rfl ?_
 refine Ak<|Ak ?_
 rcases a2:(Ck p0) with _|a0|a0|a0
 ·replace h:=volume_thing.toNil a2 h
  rw [a2] at a1
  obtain rfl:aA=.nilIface:=a1
  refine WI.region<|rn 2 2 [(4,.nilIface),(8,.bool true)] hF fun a hF=>wfn rfl ?_
  refine wpIn_cond_true (hF.get rfl) ?_
  refine rnB [(2,.nilIface),(3,iv 2)] hF fun a hF=>?_
  refine wpIn_ret (A2<|A9 [.tmp 2,.tmp 3] [_,_] hF rfl ⟨rfl,rfl,trivial⟩ ?_)
  obtain rfl:=Ai h
  exact ⟨_,rfl,ν10,.nilIface,hext,rfl,(show volume_thing.R _ .nilIface .nil_ from rfl),St.pick [1] (by decide) hS⟩
 ·replace h:=volume_thing.to156 a2 h
  rw [a2] at a1
  obtain ⟨aN,rfl,aE⟩:=a1
  obtain ⟨a3,a5,aD,rfl,a8⟩:=aE
  refine WI.region<|rn 2 2 [(4,.iface 156 (.agg (a0.Sweep.ax a3 a5))),(8,.bool false)] hF fun a hF=>wfn rfl ?_
  refine wpIn_cond_false (hF.get rfl) ?_
  refine wK<|esr ?_
  obtain ⟨aK,aH,h⟩:=A0 h
  refine rX 5 5 [(2,.iface 156 (.agg (a0.Sweep.ax a3 a5))),(3,iv aK)] hF (oC (fun w2 hd=>Ki F a0 _ aH _ w2 (A1 w2) (a8.mono Rp87.mono (FrzAt.le_mem ((hS.later hd).frz (i:=1) rfl hlow))))<|A3) fun a w hF hx=>?_
  replace hS:=hS.later hx
  refine wfn rfl ?_
  refine wpIn_ret (A9 [.tmp 2,.tmp 3] [_,_] hF rfl ⟨rfl,rfl,trivial⟩ ?_)
  obtain rfl:=Ai h
  exact ⟨_,rfl,ν10,(.iface 156 (.agg (a0.Sweep.ax a3 a5))),hext,rfl,(show volume_thing.R _ _ (.ic156 a0) from ⟨[.string a0.Sweep.Site.Name,iv a0.Sweep.Site.X,iv a0.Sweep.Site.Y,iv a0.Sweep.Site.Z,iv a0.Sweep.Site.Rose,iv a0.Sweep.Site.Gates,iv a0.Sweep.Site.Step,iv a0.Sweep.Site.Width,iv a0.Sweep.Tilt,iv a0.Sweep.Time,sv a3 a0.Sweep.Rays a5],rfl,⟨a3,a5,aD,rfl,a8⟩⟩),St.pick [1] (by decide) hS⟩
 ·replace h:=volume_thing.to158 a2 h
  rw [a2] at a1
  obtain ⟨aO,rfl,aF⟩:=a1
  obtain ⟨a4,a6,rfl,a9⟩:=aF
  refine WI.region<|rn 2 2 [(4,.iface 158 (.agg (a0.ax a4 a6))),(8,.bool false)] hF fun a hF=>wfn rfl ?_
  refine wpIn_cond_false (hF.get rfl) ?_
  refine wK<|esr ?_
  obtain ⟨aL,aI,h⟩:=A0 h
  refine rX 5 5 [(2,.iface 158 (.agg (a0.ax a4 a6))),(3,iv aL)] hF (oC (fun w2 hd=>Kh F a0 _ aI _ w2 (A1 w2) (a9.mono (FrzAt.le_mem ((hS.later hd).frz (i:=1) rfl hlow))))<|A3) fun a w hF hx=>?_
  replace hS:=hS.later hx
  refine wfn rfl ?_
  refine wpIn_ret (A9 [.tmp 2,.tmp 3] [_,_] hF rfl ⟨rfl,rfl,trivial⟩ ?_)
  obtain rfl:=Ai h
  exact ⟨_,rfl,ν10,(.iface 158 (.agg (a0.ax a4 a6))),hext,rfl,(show volume_thing.R _ _ (.ic158 a0) from ⟨[.string a0.key,iv a0.time,iv a0.Field.Grid.X,iv a0.Field.Grid.Y,iv a0.Field.Grid.Size,iv a0.Field.Grid.Wide,iv a0.Field.Grid.High,sv a4 a0.Field.Vals a6],rfl,⟨a4,a6,rfl,a9⟩⟩),St.pick [1] (by decide) hS⟩
 ·replace h:=volume_thing.to160 a2 h
  rw [a2] at a1
  obtain ⟨aC,rfl,aG⟩:=a1
  obtain rfl:aC=_:=aG
  refine WI.region<|rn 2 2 [(4,.iface 160 (.agg #[iv a0.time,.string a0.text])),(8,.bool false)] hF fun a hF=>wfn rfl ?_
  refine wpIn_cond_false (hF.get rfl) ?_
  refine wK<|esr ?_
  obtain ⟨aM,aJ,h⟩:=A0 h
  refine rX 5 5 [(2,.iface 160 (.agg #[iv a0.time,.string a0.text])),(3,iv aM)] hF (oC (fun w2 hd=>Lc F a0 _ aJ _ w2 (A1 w2))<|A3) fun a w hF hx=>?_
  replace hS:=hS.later hx
  refine wfn rfl ?_
  refine wpIn_ret (A9 [.tmp 2,.tmp 3] [_,_] hF rfl ⟨rfl,rfl,trivial⟩ ?_)
  obtain rfl:=Ai h
  exact ⟨_,rfl,ν10,(.iface 160 (.agg #[iv a0.time,.string a0.text])),hext,rfl,(show volume_thing.R _ _ (.ic160 a0) from ⟨[iv a0.time,.string a0.text],rfl,rfl⟩),St.pick [1] (by decide) hS⟩
theorem P8 (F:Nat) (p0:volume_thing) (p1:volume_writer) (res:volume_writer) (h:Ji F p0 p1=some res) (μ:Frz) (w0 w1:World) (T_:List Res) (hlow:B2 w0 μ) {v:Value} {cb1:Nat} {ad1:Option Addr} {cap2:Nat} (hv:volume_thing.R μ v p0) (hS:St w0 (fz w0 μ::blk cb1 138 #[sv ad1 p1.b cap2]::arrT 5 1 (fK .u8) ad1 p1.b.length cap2 p1.b::T_) w1):Zj Tryz.prog v "radome/volume.write" #[pb cb1] (fun f gs=>Bd Tryz.prog f gs w1 (fun e w=>∃(ν_:Frz) (ad3:Option Addr) (cap4:Nat),μ.ext w0.heap.size ν_∧B2 w0 ν_∧e=(.tuple #[])∧St w0 (fz w0 ν_::blk cb1 138 #[sv ad3 res.b cap4]::arrT 5 1 (fK .u8) ad3 res.b.length cap4 res.b::T_) w)):=by
 cases p0 with
 | nil_=>cases h
 | ic156 y =>
  obtain ⟨cs,rfl,hr⟩:=hv
  obtain ⟨ad5,cap6,css7,rfl,hA8⟩:=hr
  exact ⟨166,#[.agg (y.Sweep.ax ad5 cap6),pb cb1],by kernel_rfl,P6 F y p1 _ h μ w0 w1 T_ hlow hA8 hS⟩
 | ic158 y =>
  obtain ⟨cs,rfl,hr⟩:=hv
  obtain ⟨ad9,a0,rfl,a1⟩:=hr
  exact ⟨180,#[.agg (y.ax ad9 a0),pb cb1],by kernel_rfl,P5 F y p1 _ h μ w0 w1 T_ hlow a1 hS⟩
 | ic160 y =>
  obtain ⟨cs,rfl,hr⟩:=hv
  obtain rfl:=hr
  exact ⟨188,#[.agg #[iv y.time,.string y.text],pb cb1],by kernel_rfl,Pv F y p1 _ h μ w0 w1 T_ hlow hS⟩
theorem Sn (F:Nat) (p0:volume_thing) (res:(List Int)) (h:Hq F p0=some res) (μ:Frz) (w0:World) (hm:FrzAt μ w0) {v1:Value} (hA2:volume_thing.R μ v1 p0):Bd Tryz.prog 42 #[v1] w0 (fun e w=>∃zad0 zcap0,e=(sv zad0 res zcap0)∧St w0 [arr 5 1 (fK .u8) zad0 res.length zcap0 res] w):=by
 obtain ⟨hlow,hS⟩:=hm.init
 have hext:=Frz.ext_refl w0.heap.size μ
 rw [Hq] at h
 refine feW Tryz.func42 29 [(0,v1)] hS fun a w hF hS=>?_
 refine qnB [] hF fun a hF=>?_
 refine esr<|SK.wi (qA 138 #[.slice none 0 0] (fun b3=>[(3,pb b3)]) hF hS fun b3 w a hF hS=>?_)
 refine SK.wi (qA 138 #[.slice none 0 0] (fun b4=>[(4,pb b4)]) hF hS fun b4 w a hF hS=>wfn rfl ?_)
 refine esr<|qn 1 1 [(5,v1)] hF fun a hF=>?_
 replace hS:=hS.nilT 5 1 (fK .u8)
 obtain ⟨y5,hy5,h⟩:=A0 h
 replace hS:=hS.s2.s3
 refine SK.wi (Wv (fun v8=>[(3,pb b3),(4,pb b4)]) hF kr ⟨kr⟩ (P8 F _ _ _ hy5 μ w0 w _ hlow hA2 hS) (fun _=>⟨kr⟩) ?_)
 rintro v8 w a ⟨ν6,ad9,a7,hx7,hlow,rfl,hS⟩ hF
 replace hext:=hext.t hx7
 replace hA2:=hA2.mono hx7.1
 refine wfn rfl ?_
 refine esr<|ro 3 3 [(3,pb b3),(4,pb b4),(9,iv (ln y5.b))] hF (oL 22 1 0 hS.i rfl rfl<|A3) fun a hF=>?_
 refine SK.wi (qL 3 69 1 [(ln y5.b)] (fun aB=>[(10,sb aB 1)]) Fl hF hS fun aB w a hF hS=>?_)
 replace hS:=hS.nilT 5 1 (fK .u8)
 obtain ⟨ν12,aD,hlow,hS,aO⟩:=hS.freeze (i:=2) (j:=1) rfl rfl (by decide) hlow
 replace hA2:=hA2.mono aD.1
 replace hext:=hext.t aD
 have a9:=ArrM.of_arr aO
 obtain ⟨aG,aM,h⟩:=A0 h
 replace hS:=hS.s4.s2
 refine SK.wi (qR (fun aP=>[]) hF (Al F _ _ _ aM ν12 w0 w _ hlow a9 hS) ?_)
 rintro aP w a ⟨ν17,aH,aI,aA,hlow,rfl,hS⟩ hF
 replace hext:=hext.t aA
 replace hA2:=hA2.mono aA.1
 replace a9:=a9.mono aA.1
 refine wfn rfl ?_
 refine esr<|qo 4 4 [(13,sv aH aG.b aI),(15,sv ad9 y5.b a7)] hF (oL 22 1 0 hS.i rfl rfl<|oL 22 3 0 hS.i rfl rfl<|A3) fun a hF=>?_
 obtain ⟨a0,aJ,h⟩:=A0 h
 refine SK.wi (R6 (t:=22) (ty:=22) (bytes:=1) (l:=aG.b) (l':=y5.b) (fun a1 a2=>[(4,pb b4),(16,sv a1 a0 a2)]) 2 hF hS rfl kr ⟨kr⟩ kr (hS.arrT_ (i:=4) rfl) (fun _ _=>rfl) aJ (fun _ _=>⟨kr⟩) fun a1 a2 w a hF hS=>?_)
 refine rn 1 6 [(4,pb b4),(16,sv a1 a0 a2),(17,pb b4)] hF fun a hF=>?_
 refine SK.wi (qs 22 1 0 (sv a1 a0 a2) hF hS rfl fun w a hF hS=>wfn rfl ?_)
 refine Ak ?_
 obtain ⟨aQ,aN,h⟩:=A0 h
 refine Bm 5 [4] _ (D:=fun w=>St w0 [blk b4 138 #[sv a1 a0 a2],arrT 5 1 (fK .u8) a1 a0.length a2 a0,blk b3 138 #[sv ad9 y5.b a7],arrT 5 1 (fK .u8) ad9 y5.b.length a7 y5.b] w∧FrzAt ν17 w) kr kr hF.size (fun w hx=>?_) (fun _ _ h=>h)
 replace hS:=hS.later hx
 refine ⟨⟨St.pick [1,2,3,4] (by decide) hS,hS.frz (i:=0) rfl hlow⟩,?_⟩
 have aT:=Frz.le_refl ν17
 refine WT.s [0,1,2,3] [4] kr kr ?_
 refine qC 4 [(19,sv a1 a0 a2),(21,sv a1 a0 a2)] hF (oL 22 0 0 (fun _ hd=>hd.1) rfl rfl<|oL 22 0 0 (fun _ hd=>hd.1) rfl rfl<|A3) fun a hF=>?_
 refine WRun.fin ?_
 refine all_cons ?_ (Am)
 refine qR (fun aF=>[(22,aF)]) hF (Qj F _ _ aN (Av w) w (A1 w) (Arr.toM (hS.arrT_ (i:=2) rfl))) ?_
 rintro aF w a ⟨aR,aS,rfl,hQ⟩ hF
 replace hS:=hS.madeL hQ
 refine ⟨⟨St.pick [2,3,4,5] (by decide) hS,(hS.frz (i:=1) rfl hlow)⟩,?_⟩
 refine WT.z [] kr ?_
 refine WRun.fin ?_
 obtain ⟨a5,aK,h⟩:=A0 h
 refine SK.wi (R6 (t:=22) (ty:=22) (bytes:=1) (l:=a0) (l':=aQ) (fun a3 a4=>[(4,pb b4),(23,sv a3 a5 a4)]) 3 hF hS rfl kr ⟨kr⟩ kr (hS.arr (i:=0) rfl) (fun _ _=>rfl) aK (fun _ _=>⟨kr⟩) fun a3 a4 w a hF hS=>?_)
 refine rn 1 7 [(4,pb b4),(23,sv a3 a5 a4),(24,pb b4)] hF fun a hF=>?_
 refine SK.wi (qs 22 2 0 (sv a3 a5 a4) hF hS rfl fun w a hF hS=>wfn rfl ?_)
 refine esr<|SK.wi (qL 5 22 1 [0] (fun aC=>[(25,sb aC 1)]) (Bs .u8) hF hS fun aC w a hF hS=>?_)
 refine qo 2 3 [(27,sv a3 a5 a4)] hF (oL 22 3 0 hS.i rfl rfl<|A3) fun a hF=>?_
 obtain ⟨aE,aL,h⟩:=A0 h
 refine SK.wi (qP 22 22 0 (fun a6 a8=>[(28,sv a6 aE a8)]) hF hS (hS.arrT_ (i:=4) rfl) aL rfl fun a6 a8 w a hF hS=>?_)
 refine rn 1 5 [(2,sv a6 aE a8)] hF fun a hF=>wfn rfl ?_
 refine wpIn_ret (A9 [.tmp 2] [_] hF rfl ⟨rfl,trivial⟩ ?_)
 obtain rfl:=Ai h
 exact ⟨_,rfl,_,_,rfl,St.pick [0] (by decide) hS⟩
end Go.Proofs.YtifbomimeodibaaGreat
