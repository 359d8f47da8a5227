import Derived.Test.YtifbomimeodibaaGreatV3XD
import Derived.Test.YtifbomimeodibaaGreatProg
import Derived.Test.YtifbomimeodibaaGreatV3XW0
import Derived.Test.YtifbomimeodibaaGreatV3XW1
import Derived.Test.YtifbomimeodibaaGreatV3XW2
namespace Go.Proofs.YtifbomimeodibaaGreat
open Go Go.RowKit Go.Eng
set_option maxRecDepth 10000
set_option maxHeartbeats 4000000
set_option linter.unusedVariables false
set_option linter.unusedSimpArgs false
theorem H6 (F:Nat) (p0:volume_reader) (res:Except (Value×volume_reader) (ByteArray×volume_reader)) (h:Dc F p0=some res) (μ:Frz) (w0 w1:World) (T_:List Res) (hlow:Ay w0 μ) {cb0:Nat} {ad1:Option Addr} {cap2:Nat} (hA3:ArrM μ 1 (fK .u8) ad1 cap2 p0.b) (hS:St w0 (fz w0 μ::blk cb0 125 #[sv ad1 p0.b cap2]::T_) w1):Nl Tryz.prog 91 #[pb cb0] w1 res (fun r_ e w=>∃(ν_:Frz) (a5:Option Addr) (a7:Nat),μ.ext w0.heap.size ν_∧Ay w0 ν_∧e=(.string r_.1)∧(ArrM ν_ 1 (fK .u8) a5 a7 r_.2.b)∧St w0 (fz w0 ν_::blk cb0 125 #[sv a5 r_.2.b a7]::T_) w) (fun e_ w=>∃(ν_:Frz) (a6:Option Addr) (a8:Nat),μ.ext w0.heap.size ν_∧Ay w0 ν_∧(ArrM ν_ 1 (fK .u8) a6 a8 e_.b)∧St w0 (fz w0 ν_::blk cb0 125 #[sv a6 e_.b a8]::T_) w):=by
 rw [Dc] at h
 have hext:=Frz.ext_refl w0.heap.size μ
 refine Ah Tryz.func91 rfl 32 [(0,pb cb0)] rfl rfl kr fun a w hw hF=>?_
 replace hS:=hS.cast hw
 clear hw
 refine qnB [] hF fun a hF=>?_
 refine esr ?_
 refine qn 1 1 [(5,pb cb0)] hF fun a hF=>?_
 obtain ⟨y4,hy4,h⟩:=A1 h
 refine Dp (fun v9=>[(0,pb cb0),(6,v9)]) hF kr ⟨kr⟩ (An F _ _ hy4 μ w0 w _ hlow hA3 hS) (fun _=>⟨kr⟩) ?_ ?_
 ·rintro e6 w he_ ⟨ν13,aC,aD,aB,hlow,aE,hS⟩
  replace h:=G6 h he_
  replace hext:=Frz.ext_trans hext aB
  replace hA3:=hA3.mono aB.1
  refine A6<|Az hF ?_
  obtain rfl:=Ao h
  replace hS:=hS
  exact .inr ⟨_,rfl,rfl,ν13,aC,aD,hext,hlow,aE,hS⟩
 rintro y5 v9 w a he_ ⟨ν7,a1,a0,hx8,hlow,rfl,a3,hS⟩ hF
 replace h:=G7 h he_
 replace hext:=Frz.ext_trans hext hx8
 replace hA3:=hA3.mono hx8.1
 refine rn 1 3 [(0,pb cb0),(3,iv y5.1)] hF fun a hF=>?_
 refine wfn rfl ?_
 refine Dg (fun a w=>Fr 32 [] [(0,pb cb0),(3,iv y5.1)] a∧St w0 (fz w0 ν7::blk cb0 125 #[sv a1 y5.2.b a0]::T_) w∧Fl y5=some res) ?_ ?_
 ·skip
  refine qoB [(13,.bool (decide (y5.1>(ln y5.2.b))))] hF (oL 22 1 0 hS.i rfl rfl<|A9) fun a hF=>?_
  refine Ai hF rfl (fun hc=>?_) (fun hc=>?_)
  ·replace h:=Ag h hc
   refine WI.region ?_
   refine qn 1 1 [(14,.iface 128 (iv 7))] hF fun a hF=>?_
   refine Ny (t:=128) (v:=iv 7) hF ⟨kr⟩ (A6<|Az hF ?_)
   obtain rfl:=Ao h
   replace hS:=hS
   exact .inr ⟨_,rfl,rfl,ν7,a1,a0,hext,hlow,a3,hS⟩
  ·replace h:=Af h hc
   refine wpIn_skip (A0 ?_)
   exact ⟨hF.sub kr,hS,h⟩
 rintro a w ⟨hF,hS,h⟩
 rw [Fl] at h
 refine esr ?_
 obtain ⟨a2,a9,h⟩:=A1 h
 have aF:ArrM ν7 1 (fK .u8) (Aq a1 a0 (0:Int).toNat 1) (a0-(0:Int).toNat) a2:=fun w_ hw_=>(a3 w_ hw_).cutD (Bc .u8) a9
 refine qo 8 8 [(4,.string (bst a2))] hF (oL 22 1 0 hS.i rfl rfl<|oX (.run [] (Instr.sliceAt 22 (sv a1 y5.2.b a0) none (some (iv y5.1)) none) (.slice (Aq a1 a0 (0:Int).toNat 1) a2.length (a0-(0:Int).toNat))) (Nx kr (a3 _ (hS.frz (i:=0) rfl hlow)) (fun _=>a9))<|oX (.run [] (convert 22 9 (.slice (Aq a1 a0 (0:Int).toNat 1) a2.length (a0-(0:Int).toNat))) (.string (bst a2))) (Vh kr kr (fun _ hd=>(aF _ ((hS.at_ hd).frz (i:=0) rfl hlow))))<|A9) fun a hF=>?_
 refine wfn rfl ?_
 refine esr ?_
 obtain ⟨a4,aA,h⟩:=A1 h
 have aG:ArrM ν7 1 (fK .u8) (Aq a1 a0 y5.1.toNat 1) (a0-y5.1.toNat) a4:=fun w_ hw_=>(a3 w_ hw_).cutD (Bc .u8) aA
 refine qo 9 9 [(28,.slice (Aq a1 a0 y5.1.toNat 1) a4.length (a0-y5.1.toNat)),(30,pb cb0)] hF (oL 22 1 0 hS.i rfl rfl<|oX (.run [] (Instr.sliceAt 22 (sv a1 y5.2.b a0) (some (iv y5.1)) none none) (.slice (Aq a1 a0 y5.1.toNat 1) a4.length (a0-y5.1.toNat))) (Kq kr (a3 _ (hS.frz (i:=0) rfl hlow)) (fun _=>aA))<|A9) fun a hF=>?_
 refine SK.wi (qs 22 1 0 (.slice (Aq a1 a0 y5.1.toNat 1) a4.length (a0-y5.1.toNat)) hF hS rfl fun w a hF hS=>?_)
 refine wfn rfl ?_
 refine rnB [(2,.string (bst a2))] hF fun a hF=>?_
 refine wpIn_ret (Ab [.tmp 2] [.string (bst a2)] hF rfl ⟨rfl,trivial⟩ ?_)
 obtain rfl:=Ao h
 replace hS:=hS
 exact .inl ⟨_,_,rfl,rfl,ν7,(Aq a1 a0 y5.1.toNat 1),(a0-y5.1.toNat),hext,hlow,rfl,aG,hS⟩
theorem D9 (F:Nat) (p0:volume_reader) (res:Except (Value×volume_reader) (Int×volume_reader)) (h:Bp F p0=some res) (μ:Frz) (w0 w1:World) (T_:List Res) (hlow:Ay w0 μ) {cb0:Nat} {ad1:Option Addr} {cap2:Nat} (hA3:ArrM μ 1 (fK .u8) ad1 cap2 p0.b) (hS:St w0 (fz w0 μ::blk cb0 125 #[sv ad1 p0.b cap2]::T_) w1):Nl Tryz.prog 92 #[pb cb0] w1 res (fun r_ e w=>∃(ν_:Frz) (a1:Option Addr) (a4:Nat),μ.ext w0.heap.size ν_∧Ay w0 ν_∧e=(iv r_.1)∧(ArrM ν_ 1 (fK .u8) a1 a4 r_.2.b)∧St w0 (fz w0 ν_::blk cb0 125 #[sv a1 r_.2.b a4]::T_) w) (fun e_ w=>∃(ν_:Frz) (a2:Option Addr) (a5:Nat),μ.ext w0.heap.size ν_∧Ay w0 ν_∧(ArrM ν_ 1 (fK .u8) a2 a5 e_.b)∧St w0 (fz w0 ν_::blk cb0 125 #[sv a2 e_.b a5]::T_) w):=by
 rw [Bp] at h
 have hext:=Frz.ext_refl w0.heap.size μ
 refine Ah Tryz.func92 rfl 15 [(0,pb cb0)] rfl rfl kr fun a w hw hF=>?_
 replace hS:=hS.cast hw
 clear hw
 refine qnB [] hF fun a hF=>?_
 refine esr ?_
 refine rn 1 1 [(4,pb cb0)] hF fun a hF=>?_
 obtain ⟨y4,hy4,h⟩:=A1 h
 refine Dp (fun v9=>[(5,v9)]) hF kr ⟨kr⟩ (An F _ _ hy4 μ w0 w _ hlow hA3 hS) (fun _=>⟨kr⟩) ?_ ?_
 ·rintro e6 w he_ ⟨ν13,aA,aB,a7,hlow,aC,hS⟩
  replace h:=G6 h he_
  replace hext:=Frz.ext_trans hext a7
  replace hA3:=hA3.mono a7.1
  refine A6<|Az hF ?_
  obtain rfl:=Ao h
  replace hS:=hS
  exact .inr ⟨_,rfl,rfl,ν13,aA,aB,hext,hlow,aC,hS⟩
 rintro y5 v9 w a he_ ⟨ν7,a0,a3,hx8,hlow,rfl,a6,hS⟩ hF
 replace h:=G7 h he_
 replace hext:=Frz.ext_trans hext hx8
 replace hA3:=hA3.mono hx8.1
 refine rn 1 3 [(3,iv y5.1)] hF fun a hF=>?_
 refine wfn rfl ?_
 refine Ar ?_
 refine esr ?_
 obtain ⟨aH,aD,h⟩:=A1 h
 refine qo 3 3 [(8,.bool (aH==1))] hF (oR 3 aD<|A9) fun a hF=>?_
 refine wfn rfl ?_
 refine Ai hF rfl (fun hc=>?_) (fun hc=>?_)
 ·replace h:=Ag h hc
  refine esr ?_
  obtain ⟨aI,aE,h⟩:=A1 h
  obtain ⟨a8,aF,h⟩:=A1 h
  refine ro 5 5 [(2,iv a8)] hF (oA 3 aE<|oQ 3 aF<|A9) fun a hF=>?_
  refine wfn rfl ?_
  refine wpIn_ret (A5<|Ab [.tmp 2] [iv a8] hF rfl ⟨rfl,trivial⟩ ?_)
  obtain rfl:=Ao h
  replace hS:=hS
  exact .inl ⟨_,_,rfl,rfl,ν7,a0,a3,hext,hlow,rfl,a6,hS⟩
 ·replace h:=Af h hc
  refine wpIn_skip (A0 ?_)
  refine esr ?_
  obtain ⟨a9,aG,h⟩:=A1 h
  refine ro 3 3 [(2,iv a9)] hF (oQ 3 aG<|A9) fun a hF=>?_
  refine wfn rfl ?_
  refine wpIn_ret (Ab [.tmp 2] [iv a9] hF rfl ⟨rfl,trivial⟩ ?_)
  obtain rfl:=Ao h
  replace hS:=hS
  exact .inl ⟨_,_,rfl,rfl,ν7,a0,a3,hext,hlow,rfl,a6,hS⟩
theorem Mt (F:Nat) (p0:api_Site) (res:Int) (h:Ey F p0=some res) (μ:Frz) (w0:World) (hm:FrzAt μ w0):Calls Tryz.prog 93 #[p0.ag] w0 (fun e w=>e=.returned (iv res)∧Ext w0 w):=by
 obtain ⟨hlow,hS⟩:=hm.init
 have hext:=Frz.ext_refl w0.heap.size μ
 rw [Ey] at h
 refine Ah Tryz.func93 rfl 38 [(0,p0.ag)] rfl rfl kr fun a w hw hF=>?_
 replace hS:=hS.cast hw
 clear hw
 refine esr ?_
 refine SK.wi (Ld (t:=38) (fun b1=>[(1,pb b1)]) (p0.ag) p0.ar hF hS kr ⟨kr⟩ kr (fun _=>⟨kr⟩) fun b1 w a hF hS=>?_)
 refine rn 1 2 [(1,pb b1)] hF fun a hF=>?_
 refine wfn rfl ?_
 refine Ar ?_
 refine wpIn_block ?_
 refine esr ?_
 obtain ⟨y2,hy2,h⟩:=A1 h
 refine qx 5 5 [(3,.bool (!y2))] hF (oL 9 0 0 hS.e rfl rfl<|oC (fun w2 hd=>Rh F p0.Name _ hy2 _ w2 (Ae w2))<|A9) fun a w hF hx=>?_
 replace hS:=hS.later hx
 refine wfn rfl ?_
 refine Ai hF rfl (fun hc=>?_) (fun hc=>?_)
 ·replace h:=Ag h hc
  refine rnB [(2,iv 10)] hF fun a hF=>?_
  refine wpIn_ret (Al<|A5<|Ab [.tmp 2] [iv 10] hF rfl ⟨rfl,trivial⟩ ?_)
  obtain rfl:=Ao h
  exact ⟨rfl,hS.ext⟩
 ·replace h:=Af h hc
  refine Dg (fun a w=>∃(c3:Bool),Fr 38 [] [(1,pb b1),(8,.bool c3)] a∧St w0 [blk b1 38 p0.ar,fz w0 μ] w∧E3 p0 c3=some res) ?_ ?_
  ·skip
   refine esr ?_
   refine qx 5 5 [(8,.bool (!(Aj p0.X (-1048576) 1048576)))] hF (oL 3 0 1 hS.e rfl rfl<|oC (fun w2 hd=>Cr p0.X (-1048576) 1048576 _ rfl _ w2 (Ae w2))<|A9) fun a w hF hx=>?_
   replace hS:=hS.later hx
   refine wfn rfl ?_
   refine Ai hF rfl (fun hc=>?_) (fun hc=>?_)
   ·replace h:=Ag h hc
    refine wpIn_skip (A0 ?_)
    exact ⟨!(Aj p0.X (-1048576) 1048576),hF.sub kr,St.pick [0,1] (by decide) hS,h⟩
   ·replace h:=Af h hc
    refine esr ?_
    refine rX 5 5 [(1,pb b1),(8,.bool (!(Aj p0.Y (-1048576) 1048576)))] hF (oL 3 0 2 hS.e rfl rfl<|oC (fun w2 hd=>Cr p0.Y (-1048576) 1048576 _ rfl _ w2 (Ae w2))<|A9) fun a w hF hx=>?_
    replace hS:=hS.later hx
    refine wfn rfl ?_
    refine Ai hF rfl (fun hc=>?_) (fun hc=>?_)
    ·replace h:=Ag h hc
     refine wpIn_skip (A0 ?_)
     exact ⟨!(Aj p0.Y (-1048576) 1048576),hF.sub kr,St.pick [0,1] (by decide) hS,h⟩
    ·replace h:=Af h hc
     refine WI.region ?_
     refine rX 5 5 [(1,pb b1),(8,.bool (!(Aj p0.Z 0 20000)))] hF (oL 3 0 3 hS.e rfl rfl<|oC (fun w2 hd=>Cr p0.Z 0 20000 _ rfl _ w2 (Ae w2))<|A9) fun a w hF hx=>?_
     replace hS:=hS.later hx
     refine wfn rfl ?_
     exact ⟨!(Aj p0.Z 0 20000),hF.sub kr,St.pick [0,1] (by decide) hS,h⟩
  rintro a w ⟨c3,hF,hS,h⟩
  rw [E3] at h
  refine Ai hF rfl (fun hc=>?_) (fun hc=>?_)
  ·replace h:=Ag h hc
   refine rnB [(2,iv 3)] hF fun a hF=>?_
   refine wpIn_ret (Al<|A5<|Ab [.tmp 2] [iv 3] hF rfl ⟨rfl,trivial⟩ ?_)
   obtain rfl:=Ao h
   exact ⟨rfl,hS.ext⟩
  ·replace h:=Af h hc
   refine Dg (fun a w=>∃(c4:Bool),Fr 38 [] [(21,.bool c4)] a∧St w0 [blk b1 38 p0.ar,fz w0 μ] w∧Dd c4=some res) ?_ ?_
   ·skip
    refine esr ?_
    refine rX 5 5 [(1,pb b1),(21,.bool (!(Aj p0.Rose 1 90)))] hF (oL 3 0 4 hS.e rfl rfl<|oC (fun w2 hd=>Cr p0.Rose 1 90 _ rfl _ w2 (Ae w2))<|A9) fun a w hF hx=>?_
    replace hS:=hS.later hx
    refine wfn rfl ?_
    refine Ai hF rfl (fun hc=>?_) (fun hc=>?_)
    ·replace h:=Ag h hc
     refine wpIn_skip (A0 ?_)
     exact ⟨!(Aj p0.Rose 1 90),hF.sub kr,St.pick [0,1] (by decide) hS,h⟩
    ·replace h:=Af h hc
     refine esr ?_
     refine rX 5 5 [(1,pb b1),(21,.bool (!(Aj p0.Gates 1 200)))] hF (oL 3 0 5 hS.e rfl rfl<|oC (fun w2 hd=>Cr p0.Gates 1 200 _ rfl _ w2 (Ae w2))<|A9) fun a w hF hx=>?_
     replace hS:=hS.later hx
     refine wfn rfl ?_
     refine Ai hF rfl (fun hc=>?_) (fun hc=>?_)
     ·replace h:=Ag h hc
      refine wpIn_skip (A0 ?_)
      exact ⟨!(Aj p0.Gates 1 200),hF.sub kr,St.pick [0,1] (by decide) hS,h⟩
     ·replace h:=Af h hc
      refine esr ?_
      refine rX 5 5 [(1,pb b1),(21,.bool (!(Aj p0.Step 50 2000)))] hF (oL 3 0 6 hS.e rfl rfl<|oC (fun w2 hd=>Cr p0.Step 50 2000 _ rfl _ w2 (Ae w2))<|A9) fun a w hF hx=>?_
      replace hS:=hS.later hx
      refine wfn rfl ?_
      refine Ai hF rfl (fun hc=>?_) (fun hc=>?_)
      ·replace h:=Ag h hc
       refine wpIn_skip (A0 ?_)
       exact ⟨!(Aj p0.Step 50 2000),hF.sub kr,St.pick [0,1] (by decide) hS,h⟩
      ·replace h:=Af h hc
       refine WI.region ?_
       refine rX 5 5 [(21,.bool (!(Aj p0.Width 0 8)))] hF (oL 3 0 7 hS.e rfl rfl<|oC (fun w2 hd=>Cr p0.Width 0 8 _ rfl _ w2 (Ae w2))<|A9) fun a w hF hx=>?_
       replace hS:=hS.later hx
       refine wfn rfl ?_
       exact ⟨!(Aj p0.Width 0 8),hF.sub kr,St.pick [0,1] (by decide) hS,h⟩
   rintro a w ⟨c4,hF,hS,h⟩
   rw [Dd] at h
   refine Ai hF rfl (fun hc=>?_) (fun hc=>?_)
   ·replace h:=Ag h hc
    refine rnB [(2,iv 3)] hF fun a hF=>?_
    refine wpIn_ret (Al<|A5<|Ab [.tmp 2] [iv 3] hF rfl ⟨rfl,trivial⟩ ?_)
    obtain rfl:=Ao h
    exact ⟨rfl,hS.ext⟩
   ·replace h:=Af h hc
    refine wpIn_skip (Aa<|A0<|?_)
    refine rnB [(2,iv 0)] hF fun a hF=>?_
    refine wpIn_ret (Ab [.tmp 2] [iv 0] hF rfl ⟨rfl,trivial⟩ ?_)
    obtain rfl:=Ao h
    exact ⟨rfl,hS.ext⟩
theorem Ms (p0:api_Grid) (res:Int) (h:Bb p0=res) (μ:Frz) (w0:World) (hm:FrzAt μ w0):Calls Tryz.prog 96 #[p0.ag] w0 (fun e w=>e=.returned (iv res)∧Ext w0 w):=by
 obtain ⟨hlow,hS⟩:=hm.init
 have hext:=Frz.ext_refl w0.heap.size μ
 rw [Bb] at h
 refine Ah Tryz.func96 rfl 24 [(0,p0.ag)] rfl rfl kr fun a w hw hF=>?_
 replace hS:=hS.cast hw
 clear hw
 refine esr ?_
 refine SK.wi (Ld (t:=43) (fun b1=>[(1,pb b1)]) (p0.ag) p0.ar hF hS kr ⟨kr⟩ kr (fun _=>⟨kr⟩) fun b1 w a hF hS=>?_)
 refine rn 1 2 [(1,pb b1)] hF fun a hF=>?_
 refine wfn rfl ?_
 refine Ar ?_
 refine wpIn_block ?_
 refine Dg (fun a w=>∃(c2:Bool),Fr 24 [] [(3,.bool c2)] a∧St w0 [blk b1 43 p0.ar,fz w0 μ] w∧Cx c2=res) ?_ ?_
 ·skip
  refine esr ?_
  refine qx 5 5 [(3,.bool (!(Aj p0.X (-1048576) 1048576)))] hF (oL 3 0 0 hS.e rfl rfl<|oC (fun w2 hd=>Cr p0.X (-1048576) 1048576 _ rfl _ w2 (Ae w2))<|A9) fun a w hF hx=>?_
  replace hS:=hS.later hx
  refine wfn rfl ?_
  refine Ai hF rfl (fun hc=>?_) (fun hc=>?_)
  ·replace h:=Ag h hc
   refine wpIn_skip (A0 ?_)
   exact ⟨!(Aj p0.X (-1048576) 1048576),hF.sub kr,St.pick [0,1] (by decide) hS,h⟩
  ·replace h:=Af h hc
   refine esr ?_
   refine rX 5 5 [(1,pb b1),(3,.bool (!(Aj p0.Y (-1048576) 1048576)))] hF (oL 3 0 1 hS.e rfl rfl<|oC (fun w2 hd=>Cr p0.Y (-1048576) 1048576 _ rfl _ w2 (Ae w2))<|A9) fun a w hF hx=>?_
   replace hS:=hS.later hx
   refine wfn rfl ?_
   refine Ai hF rfl (fun hc=>?_) (fun hc=>?_)
   ·replace h:=Ag h hc
    refine wpIn_skip (A0 ?_)
    exact ⟨!(Aj p0.Y (-1048576) 1048576),hF.sub kr,St.pick [0,1] (by decide) hS,h⟩
   ·replace h:=Af h hc
    refine esr ?_
    refine rX 5 5 [(1,pb b1),(3,.bool (!(Aj p0.Size 1 10000)))] hF (oL 3 0 2 hS.e rfl rfl<|oC (fun w2 hd=>Cr p0.Size 1 10000 _ rfl _ w2 (Ae w2))<|A9) fun a w hF hx=>?_
    replace hS:=hS.later hx
    refine wfn rfl ?_
    refine Ai hF rfl (fun hc=>?_) (fun hc=>?_)
    ·replace h:=Ag h hc
     refine wpIn_skip (A0 ?_)
     exact ⟨!(Aj p0.Size 1 10000),hF.sub kr,St.pick [0,1] (by decide) hS,h⟩
    ·replace h:=Af h hc
     refine esr ?_
     refine rX 5 5 [(1,pb b1),(3,.bool (!(Aj p0.Wide 1 64)))] hF (oL 3 0 3 hS.e rfl rfl<|oC (fun w2 hd=>Cr p0.Wide 1 64 _ rfl _ w2 (Ae w2))<|A9) fun a w hF hx=>?_
     replace hS:=hS.later hx
     refine wfn rfl ?_
     refine Ai hF rfl (fun hc=>?_) (fun hc=>?_)
     ·replace h:=Ag h hc
      refine wpIn_skip (A0 ?_)
      exact ⟨!(Aj p0.Wide 1 64),hF.sub kr,St.pick [0,1] (by decide) hS,h⟩
     ·replace h:=Af h hc
      refine WI.region ?_
      refine rX 5 5 [(3,.bool (!(Aj p0.High 1 64)))] hF (oL 3 0 4 hS.e rfl rfl<|oC (fun w2 hd=>Cr p0.High 1 64 _ rfl _ w2 (Ae w2))<|A9) fun a w hF hx=>?_
      replace hS:=hS.later hx
      refine wfn rfl ?_
      exact ⟨!(Aj p0.High 1 64),hF.sub kr,St.pick [0,1] (by decide) hS,h⟩
 rintro a w ⟨c2,hF,hS,h⟩
 rw [Cx] at h
 refine Ai hF rfl (fun hc=>?_) (fun hc=>?_)
 ·replace h:=Ag h hc
  refine rnB [(2,iv 3)] hF fun a hF=>?_
  refine wpIn_ret (Al<|A5<|Ab [.tmp 2] [iv 3] hF rfl ⟨rfl,trivial⟩ ?_)
  subst h
  exact ⟨rfl,hS.ext⟩
 ·replace h:=Af h hc
  refine wpIn_skip (Aa<|A0<|?_)
  refine rnB [(2,iv 0)] hF fun a hF=>?_
  refine wpIn_ret (Ab [.tmp 2] [iv 0] hF rfl ⟨rfl,trivial⟩ ?_)
  subst h
  exact ⟨rfl,hS.ext⟩
theorem S6 (F:Nat) (p0:(List api_Span)) (res:Bool) (h:Jl F p0=some res) (μ:Frz) (w0:World) (hm:FrzAt μ w0) {ad1:Option Addr} {cap2:Nat} (hA3:ArrM μ 2 api_Span.cells ad1 cap2 p0):Calls Tryz.prog 175 #[sv ad1 p0 cap2] w0 (fun e w=>e=.returned (.bool res)∧Ext w0 w):=by
 obtain ⟨hlow,hS⟩:=hm.init
 have hext:=Frz.ext_refl w0.heap.size μ
 rw [Jl] at h
 refine Ah Tryz.func175 rfl 28 [(0,sv ad1 p0 cap2)] rfl rfl kr fun a w hw hF=>?_
 replace hS:=hS.cast hw
 clear hw
 refine qnB [] hF fun a hF=>?_
 refine Dg (fun a w=>Fr 28 [] [] a∧St w0 [fz w0 μ] w∧Jc=some res) ?_ ?_
 ·skip
  refine rnB [(5,sv ad1 p0 cap2),(6,iv (ln p0)),(7,iv 0)] hF fun a hF=>?_
  refine wpIn_block ?_
  refine Cq (fun n_ a w=>∃(a2:Int),Fr 28 [] [(5,sv ad1 p0 cap2),(6,iv (ln p0)),(7,iv a2)] a∧St w0 [fz w0 μ] w∧Dv p0 n_ a2=some res) F ⟨0,hF.sub kr,St.pick [0] (by decide) hS,h⟩ ?_
  rintro nk2 a w ⟨a2,hF,hS,h⟩
  rcases nk2 with _|nk2
  ·cases (show (none:Option Bool)=some res from h)
  obtain ⟨k2,hk2⟩:∃k,k=Dv p0 nk2:=⟨_,rfl⟩
  replace h:Fw p0 k2 a2=some res:=by rw [hk2];exact h
  rw [Fw] at h
  refine qnB [(8,.bool (decide (a2<(ln p0))))] hF fun a hF=>?_
  refine Ar ?_
  refine Ai hF rfl (fun hc=>?_) (fun hc=>?_)
  ·replace h:=Ag h hc
   refine wpIn_skip (A0 ?_)
   refine Ar ?_
   refine wpIn_block ?_
   refine esr ?_
   obtain ⟨a0,a4,h⟩:=A1 h
   refine qo 2 2 [(10,.agg #[iv a0.Lo,iv a0.Hi])] hF (oI 44 (hA3 _ (hS.frz (i:=0) rfl hlow)) a4<|oG 146 0 2 api_Span.cells_len (fun _ hd=>(hA3 _ ((hS.at_ hd).frz (i:=0) rfl hlow))) a4<|A9) fun a hF=>?_
   refine SK.wi (qA 146 #[iv 0,iv 0] (fun a1=>[(4,pb a1)]) hF hS fun a1 w a hF hS=>?_)
   refine SK.wi (qS 146 0 0 (.agg #[iv a0.Lo,iv a0.Hi]) #[iv a0.Lo,iv a0.Hi] hF hS rfl fun w a hF hS=>?_)
   refine wfn rfl ?_
   refine esr ?_
   obtain ⟨a5,a7,h⟩:=A1 h
   obtain ⟨a3,a8,h⟩:=A1 h
   refine qx 16 16 [(26,.bool (bif (!(As a0.Lo (-32768) 32767)) then true else (!(As a0.Hi a0.Lo a3))))] hF (oL 3 0 0 hS.e rfl rfl<|oC (fun w2 hd=>He a0.Lo (-32768) 32767 _ rfl _ w2 (Ae w2))<|oX (.run [⟨15,false,(!(As a0.Lo (-32768) 32767))⟩] (Instr.loadAt 3 (.pointer (some ⟨a1,1,none⟩))) (iv a0.Hi)) (ob1 kr (fun _ hd=>(hS.later hd).cell (i:=0) (j:=1) rfl rfl))<|oX (.run [⟨15,false,(!(As a0.Lo (-32768) 32767))⟩] (Instr.loadAt 3 (pb a1)) (iv a0.Lo)) (ob1 kr (fun _ hd=>(hS.later hd).cell (i:=0) (j:=0) rfl rfl))<|oX (.run [⟨15,false,(!(As a0.Lo (-32768) 32767))⟩] (Instr.loadAt 3 (pb a1)) (iv a0.Lo)) (ob1 kr (fun _ hd=>(hS.later hd).cell (i:=0) (j:=0) rfl rfl))<|oX (.run [⟨15,false,(!(As a0.Lo (-32768) 32767))⟩] (binOp .add 3 (iv a0.Lo) (iv 65536)) (iv a5)) (Px (fun hk=>C9 a7 hk))<|oX (.run [⟨15,false,(!(As a0.Lo (-32768) 32767))⟩] (binOp .sub 3 (iv a5) (iv 1)) (iv a3)) (R4 (fun hk=>C9 a8 hk))<|oX (.call [⟨15,false,(!(As a0.Lo (-32768) 32767))⟩] 171 #[iv a0.Hi,iv a0.Lo,iv a3] (.bool (As a0.Hi a0.Lo a3))) (show Ob.ok _ Ext _ _ from fun hk w2 hd=>He a0.Hi a0.Lo a3 _ rfl _ w2 (Ae w2))<|A9) fun a w hF hx=>?_
   replace hS:=hS.later hx
   refine wfn rfl ?_
   refine Ai hF rfl (fun hc=>?_) (fun hc=>?_)
   ·replace h:=Ag h hc
    refine rnB [(2,.bool false)] hF fun a hF=>?_
    refine wpIn_ret (Al<|A5<|A5<|Al<|A5<|Ab [.tmp 2] [.bool false] hF rfl ⟨rfl,trivial⟩ ?_)
    obtain rfl:=Ao h
    exact ⟨rfl,hS.ext⟩
   ·replace h:=Af h hc
    refine wpIn_skip (Aa<|A0<|?_)
    refine WI.region ?_
    obtain ⟨a6,a9,h⟩:=A1 h
    refine ro 2 2 [(5,sv ad1 p0 cap2),(6,iv (ln p0)),(7,iv a6)] hF (oA 3 a9<|A9) fun a hF=>?_
    refine wfn rfl ?_
    rw [hk2] at h
    exact ⟨nk2,Nat.lt_succ_self _,a6,hF.sub kr,St.pick [1] (by decide) hS,h⟩
  ·replace h:=Af h hc
   refine wpIn_exit (A7<|A7<|Av<|A0 ?_)
   exact ⟨hF.sub kr,St.pick [0] (by decide) hS,h⟩
 rintro a w ⟨hF,hS,h⟩
 rw [Jc] at h
 refine rnB [(2,.bool true)] hF fun a hF=>?_
 refine wpIn_ret (Ab [.tmp 2] [.bool true] hF rfl ⟨rfl,trivial⟩ ?_)
 obtain rfl:=Ao h
 exact ⟨rfl,hS.ext⟩
theorem Hb (F:Nat) (p0:volume_writer) (p1:ByteArray) (res:volume_writer) (h:Fi F p0 p1=some res) (μ:Frz) (w0 w1:World) (T_:List Res) (hlow:Ay w0 μ) {cb0:Nat} {ad1:Option Addr} {cap2:Nat} (hS:St w0 (fz w0 μ::blk cb0 138 #[sv ad1 p0.b cap2]::arrT 5 1 (fK .u8) ad1 p0.b.length cap2 p0.b::T_) w1):Bu Tryz.prog 161 #[pb cb0,.string p1] w1 (fun e w=>∃(ν_:Frz) (a3:Option Addr) (a4:Nat),μ.ext w0.heap.size ν_∧Ay w0 ν_∧e=(.tuple #[])∧St w0 (fz w0 ν_::blk cb0 138 #[sv a3 res.b a4]::arrT 5 1 (fK .u8) a3 res.b.length a4 res.b::T_) w):=by
 rw [Fi] at h
 have hext:=Frz.ext_refl w0.heap.size μ
 refine Ah Tryz.func161 rfl 18 [(0,pb cb0),(1,.string p1)] rfl rfl kr fun a w hw hF=>?_
 replace hS:=hS.cast hw
 clear hw
 refine esr ?_
 refine qn 3 3 [(4,pb cb0),(6,iv ((p1.size:Nat):Int))] hF fun a hF=>?_
 refine SK.wi (G3 (e:=3) (sz:=1) (f:=fI) (t:=69) (len:=1) (fun b3=>[(0,pb cb0),(1,.string p1),(4,pb cb0),(7,sb b3 1)]) #[(0,iv ((p1.size:Nat):Int))] #[iv ((p1.size:Nat):Int)] ([((p1.size:Nat):Int)]) hF hS kr ⟨kr⟩ kr Gc rfl rfl kr (fun _=>⟨kr⟩) fun b3 w a hF hS=>?_)
 obtain ⟨ν4,hx5,hlow,hS,hz6⟩:=hS.freeze (i:=1) (j:=0) rfl rfl (by decide) hlow
 replace hext:=Frz.ext_trans hext hx5
 have hA7:=ArrM.of_arr hz6
 obtain ⟨y8,hy8,h⟩:=A1 h
 refine SK.wi (rR (fun a9=>[(0,pb cb0),(1,.string p1)]) hF (At F _ _ _ hy8 ν4 w0 w _ hlow hA7 hS) ?_)
 rintro a9 w a ⟨ν9,a6,a7,a5,hlow,rfl,hS⟩ hF
 replace hext:=Frz.ext_trans hext a5
 replace hA7:=hA7.mono a5.1
 refine wfn rfl ?_
 refine WI.region ?_
 refine ro 6 6 [(9,pb cb0),(13,sv a6 y8.b a7),(14,.string p1)] hF (oL 22 1 0 hS.i rfl rfl<|A9) fun a hF=>?_
 obtain ⟨a2,a8,h⟩:=A1 h
 refine SK.wi (A2x (t:=22) (xt:=9) (ty:=22) (bytes:=1) (l:=y8.b) (fun a0 a1=>[(9,pb cb0),(15,sv a0 a2 a1)]) 2 hF hS rfl kr ⟨kr⟩ kr kr a8 (fun _ _=>⟨kr⟩) fun a0 a1 w a hF hS=>?_)
 refine rn 2 9 [(15,sv a0 a2 a1),(17,pb cb0)] hF fun a hF=>?_
 refine SK.wi (J8 (t:=22) [] 1 0 (sv a0 a2 a1) #[sv a0 a2 a1] hF hS rfl kr ⟨kr⟩ kr kr kr kr ⟨kr⟩ fun w a hF hS=>?_)
 refine WI.fin rfl ?_
 refine J0 hF rfl ?_
 obtain rfl:=Ao h
 replace hS:=hS
 exact ⟨_,rfl,ν9,a0,a1,hext,hlow,rfl,hS⟩
theorem G5 (F:Nat) (p0:volume_writer) (p1:(List Int)) (res:volume_writer) (h:E7 F p0 p1=some res) (μ:Frz) (w0 w1:World) (T_:List Res) (hlow:Ay w0 μ) {cb0:Nat} {ad1:Option Addr} {cap2:Nat} {ad3:Option Addr} {cap4:Nat} (hA5:ArrM μ 1 fI ad3 cap4 p1) (hS:St w0 (fz w0 μ::blk cb0 138 #[sv ad1 p0.b cap2]::arrT 5 1 (fK .u8) ad1 p0.b.length cap2 p0.b::T_) w1):Bu Tryz.prog 168 #[pb cb0,sv ad3 p1 cap4] w1 (fun e w=>∃(ν_:Frz) (aH:Option Addr) (aK:Nat),μ.ext w0.heap.size ν_∧Ay w0 ν_∧e=(.tuple #[])∧St w0 (fz w0 ν_::blk cb0 138 #[sv aH res.b aK]::arrT 5 1 (fK .u8) aH res.b.length aK res.b::T_) w):=by
 rw [E7] at h
 have hext:=Frz.ext_refl w0.heap.size μ
 refine Ah Tryz.func168 rfl 26 [(0,pb cb0),(1,sv ad3 p1 cap4)] rfl rfl kr fun a w hw hF=>?_
 replace hS:=hS.cast hw
 clear hw
 refine qnB [(6,sv ad3 p1 cap4),(7,iv (ln p1)),(8,iv 0)] hF fun a hF=>?_
 refine wpIn_block ?_
 have aL:=Frz.le_refl μ
 refine Cq (fun n_ a w=>∃(a3:(List Int)) (a2:Int) (ν130:Frz) (a7:Option Addr) (a9:Nat),Fr 26 [] [(0,pb cb0),(6,sv ad3 p1 cap4),(7,iv (ln p1)),(8,iv a2)] a∧St w0 (arrT 5 1 (fK .u8) a7 a3.length a9 a3::fz w0 ν130::blk cb0 138 #[sv a7 a3 a9]::T_) w∧(μ.le ν130)∧(μ.ext w0.heap.size ν130)∧(Ay w0 ν130)∧El F p1 n_ a3 a2=some res) F ⟨p0.b,0,μ,ad1,cap2,hF.sub kr,hS.s2,aL,hext,hlow,h⟩ ?_
 clear aL
 rintro nk1 a w ⟨a3,a2,ν130,a7,a9,hF,hS,a0,hext,hlow,h⟩
 rcases nk1 with _|nk1
 ·cases (show (none:Option volume_writer)=some res from h)
 replace hA5:=hA5.mono a0
 obtain ⟨k1,hk1⟩:∃k,k=El F p1 nk1:=⟨_,rfl⟩
 replace h:G4 F p1 k1 a3 a2=some res:=by rw [hk1];exact h
 rw [G4] at h
 refine qnB [(9,.bool (decide (a2<(ln p1))))] hF fun a hF=>?_
 refine Ar ?_
 refine Ai hF rfl (fun hc=>?_) (fun hc=>?_)
 ·replace h:=Ag h hc
  refine wpIn_skip (A0 ?_)
  have a1:=Frz.le_refl ν130
  refine Dg (fun a w=>∃(a4:(List Int)) (ν163:Frz) (a8:Option Addr) (aA:Nat),Fr 26 [] [(0,pb cb0),(6,sv ad3 p1 cap4),(7,iv (ln p1)),(8,iv a2)] a∧St w0 (arrT 5 1 (fK .u8) a8 a4.length aA a4::fz w0 ν163::blk cb0 138 #[sv a8 a4 aA]::T_) w∧(ν130.le ν163)∧(μ.ext w0.heap.size ν163)∧(Ay w0 ν163)∧Ek a2 k1 a4=some res) ?_ ?_
  ·skip
   refine wpIn_block ?_
   refine esr ?_
   obtain ⟨aO,aN,h⟩:=A1 h
   refine qo 3 3 [(5,iv aO)] hF (oI 69 (hA5 _ (hS.frz (i:=1) rfl hlow)) aN<|oE 3 0 Gc (fun _ hd=>(hA5 _ ((hS.at_ hd).frz (i:=1) rfl hlow))) aN rfl<|A9) fun a hF=>?_
   refine wfn rfl ?_
   refine qnB [(13,.bool (decide (aO<0)))] hF fun a hF=>?_
   refine Ai hF rfl (fun hc=>?_) (fun hc=>?_)
   ·replace h:=Ag h hc
    refine WI.region ?_
    obtain ⟨b6,aV,h⟩:=A1 h
    obtain ⟨aD,aW,h⟩:=A1 h
    refine qo 4 4 [(14,pb cb0),(17,iv aD)] hF (oM 3 aV<|oS 3 aW<|A9) fun a hF=>?_
    refine SK.wi (G3 (e:=3) (sz:=1) (f:=fI) (t:=69) (len:=1) (fun aI=>[(0,pb cb0),(6,sv ad3 p1 cap4),(7,iv (ln p1)),(8,iv a2),(14,pb cb0),(18,sb aI 1)]) #[(0,iv aD)] #[iv aD] ([aD]) hF hS kr ⟨kr⟩ kr Gc rfl rfl kr (fun _=>⟨kr⟩) fun aI w a hF hS=>?_)
    obtain ⟨ν174,aB,hlow,hS,b0⟩:=hS.freeze (i:=2) (j:=0) rfl rfl (by decide) hlow
    replace hA5:=hA5.mono aB.1
    replace a0:=Frz.le_trans a0 aB.1
    replace a1:=Frz.le_trans a1 aB.1
    replace hext:=Frz.ext_trans hext aB
    have aF:=ArrM.of_arr b0
    obtain ⟨b4,aY,h⟩:=A1 h
    replace hS:=hS.s2.s2
    refine SK.wi (rR (fun b2=>[(0,pb cb0),(6,sv ad3 p1 cap4),(7,iv (ln p1)),(8,iv a2)]) hF (At F _ _ _ aY ν174 w0 w _ hlow aF hS) ?_)
    rintro b2 w a ⟨ν179,aQ,aS,a5,hlow,rfl,hS⟩ hF
    replace hext:=Frz.ext_trans hext a5
    replace hA5:=hA5.mono a5.1
    replace aF:=aF.mono a5.1
    replace a0:=Frz.le_trans a0 a5.1
    replace a1:=Frz.le_trans a1 a5.1
    refine WI.fin rfl (Aa<|A0<|?_)
    exact ⟨b4.b,ν179,aQ,aS,hF.sub kr,hS.s2,a1,hext,hlow,h⟩
   ·replace h:=Af h hc
    refine WI.region ?_
    obtain ⟨aE,aX,h⟩:=A1 h
    refine qo 3 3 [(20,pb cb0),(22,iv aE)] hF (oM 3 aX<|A9) fun a hF=>?_
    refine SK.wi (G3 (e:=3) (sz:=1) (f:=fI) (t:=69) (len:=1) (fun aJ=>[(0,pb cb0),(6,sv ad3 p1 cap4),(7,iv (ln p1)),(8,iv a2),(20,pb cb0),(23,sb aJ 1)]) #[(0,iv aE)] #[iv aE] ([aE]) hF hS kr ⟨kr⟩ kr Gc rfl rfl kr (fun _=>⟨kr⟩) fun aJ w a hF hS=>?_)
    obtain ⟨ν186,aC,hlow,hS,b1⟩:=hS.freeze (i:=2) (j:=0) rfl rfl (by decide) hlow
    replace hA5:=hA5.mono aC.1
    replace a0:=Frz.le_trans a0 aC.1
    replace a1:=Frz.le_trans a1 aC.1
    replace hext:=Frz.ext_trans hext aC
    have aG:=ArrM.of_arr b1
    obtain ⟨b5,aZ,h⟩:=A1 h
    replace hS:=hS.s2.s2
    refine SK.wi (rR (fun b3=>[(0,pb cb0),(6,sv ad3 p1 cap4),(7,iv (ln p1)),(8,iv a2)]) hF (At F _ _ _ aZ ν186 w0 w _ hlow aG hS) ?_)
    rintro b3 w a ⟨ν191,aR,aT,a6,hlow,rfl,hS⟩ hF
    replace hext:=Frz.ext_trans hext a6
    replace hA5:=hA5.mono a6.1
    replace aG:=aG.mono a6.1
    replace a0:=Frz.le_trans a0 a6.1
    replace a1:=Frz.le_trans a1 a6.1
    refine WI.fin rfl (Aa<|A0<|?_)
    exact ⟨b5.b,ν191,aR,aT,hF.sub kr,hS.s2,a1,hext,hlow,h⟩
  clear a1
  rintro a w ⟨a4,ν163,a8,aA,hF,hS,aM,hext,hlow,h⟩
  replace hA5:=hA5.mono aM
  replace a0:=Frz.le_trans a0 aM
  rw [Ek] at h
  refine WI.region ?_
  obtain ⟨aP,aU,h⟩:=A1 h
  refine ro 2 2 [(0,pb cb0),(6,sv ad3 p1 cap4),(7,iv (ln p1)),(8,iv aP)] hF (oA 3 aU<|A9) fun a hF=>?_
  refine wfn rfl ?_
  rw [hk1] at h
  exact ⟨nk1,Nat.lt_succ_self _,a4,aP,ν163,a8,aA,hF.sub kr,hS,a0,hext,hlow,h⟩
 ·replace h:=Af h hc
  refine wpIn_exit (A7<|A7<|Av<|?_)
  refine J0 hF rfl ?_
  obtain rfl:=Ao h
  replace hS:=hS.s2.s2
  exact ⟨_,rfl,ν130,a7,a9,hext,hlow,rfl,hS⟩
theorem Mf (F:Nat) (p0:api_Site) (res:Int) (h:Ee F p0=some res) (μ:Frz) (w0:World) (hm:FrzAt μ w0):Calls Tryz.prog 79 #[p0.ag] w0 (fun e w=>e=.returned (iv res)∧Ext w0 w):=by
 obtain ⟨hlow,hS⟩:=hm.init
 have hext:=Frz.ext_refl w0.heap.size μ
 rw [Ee] at h
 refine Ah Tryz.func79 rfl 47 [(0,p0.ag)] rfl rfl kr fun a w hw hF=>?_
 replace hS:=hS.cast hw
 clear hw
 refine esr ?_
 refine SK.wi (Ld (t:=38) (fun b1=>[(1,pb b1)]) (p0.ag) p0.ar hF hS kr ⟨kr⟩ kr (fun _=>⟨kr⟩) fun b1 w a hF hS=>?_)
 refine rn 1 2 [(1,pb b1)] hF fun a hF=>?_
 refine wfn rfl ?_
 refine Ar ?_
 refine esr ?_
 obtain ⟨y2,hy2,h⟩:=A1 h
 refine qx 4 4 [(6,.bool (!y2))] hF (oL 9 0 0 hS.e rfl rfl<|oC (fun w2 hd=>Qr F p0.Name _ hy2 _ w2 (Ae w2))<|A9) fun a w hF hx=>?_
 replace hS:=hS.later hx
 refine wfn rfl ?_
 refine Ai hF rfl (fun hc=>?_) (fun hc=>?_)
 ·replace h:=Ag h hc
  refine rnB [(2,iv 10)] hF fun a hF=>?_
  refine wpIn_ret (A5<|Ab [.tmp 2] [iv 10] hF rfl ⟨rfl,trivial⟩ ?_)
  obtain rfl:=Ao h
  exact ⟨rfl,hS.ext⟩
 ·replace h:=Af h hc
  refine wpIn_skip (A0 ?_)
  refine Ar ?_
  refine esr ?_
  refine rX 40 40 [(46,.bool (bif (bif (bif (bif (bif (bif (!(A8 p0.X (-1048576) 1048576)) then true else (!(A8 p0.Y (-1048576) 1048576))) then true else (!(A8 p0.Z 0 20000))) then true else (!(A8 p0.Rose 1 90))) then true else (!(A8 p0.Gates 1 200))) then true else (!(A8 p0.Step 50 2000))) then true else (!(A8 p0.Width 0 8))))] hF (oL 3 0 1 hS.e rfl rfl<|oC (fun w2 hd=>Ca p0.X (-1048576) 1048576 _ rfl _ w2 (Ae w2))<|oX (.run [⟨11,false,(!(A8 p0.X (-1048576) 1048576))⟩] (Instr.loadAt 3 (.pointer (some ⟨b1,2,none⟩))) (iv p0.Y)) (ob1 kr (fun _ hd=>(hS.later hd).cell (i:=0) (j:=2) rfl rfl))<|oX (.call [⟨11,false,(!(A8 p0.X (-1048576) 1048576))⟩] 46 #[iv p0.Y,iv (-1048576),iv 1048576] (.bool (A8 p0.Y (-1048576) 1048576))) (show Ob.ok _ Ext _ _ from fun hk w2 hd=>Ca p0.Y (-1048576) 1048576 _ rfl _ w2 (Ae w2))<|oX (.run [⟨17,false,(bif (!(A8 p0.X (-1048576) 1048576)) then true else (!(A8 p0.Y (-1048576) 1048576)))⟩] (Instr.loadAt 3 (.pointer (some ⟨b1,3,none⟩))) (iv p0.Z)) (ob1 kr (fun _ hd=>(hS.later hd).cell (i:=0) (j:=3) rfl rfl))<|oX (.call [⟨17,false,(bif (!(A8 p0.X (-1048576) 1048576)) then true else (!(A8 p0.Y (-1048576) 1048576)))⟩] 46 #[iv p0.Z,iv 0,iv 20000] (.bool (A8 p0.Z 0 20000))) (show Ob.ok _ Ext _ _ from fun hk w2 hd=>Ca p0.Z 0 20000 _ rfl _ w2 (Ae w2))<|oX (.run [⟨23,false,(bif (bif (!(A8 p0.X (-1048576) 1048576)) then true else (!(A8 p0.Y (-1048576) 1048576))) then true else (!(A8 p0.Z 0 20000)))⟩] (Instr.loadAt 3 (.pointer (some ⟨b1,4,none⟩))) (iv p0.Rose)) (ob1 kr (fun _ hd=>(hS.later hd).cell (i:=0) (j:=4) rfl rfl))<|oX (.call [⟨23,false,(bif (bif (!(A8 p0.X (-1048576) 1048576)) then true else (!(A8 p0.Y (-1048576) 1048576))) then true else (!(A8 p0.Z 0 20000)))⟩] 46 #[iv p0.Rose,iv 1,iv 90] (.bool (A8 p0.Rose 1 90))) (show Ob.ok _ Ext _ _ from fun hk w2 hd=>Ca p0.Rose 1 90 _ rfl _ w2 (Ae w2))<|oX (.run [⟨29,false,(bif (bif (bif (!(A8 p0.X (-1048576) 1048576)) then true else (!(A8 p0.Y (-1048576) 1048576))) then true else (!(A8 p0.Z 0 20000))) then true else (!(A8 p0.Rose 1 90)))⟩] (Instr.loadAt 3 (.pointer (some ⟨b1,5,none⟩))) (iv p0.Gates)) (ob1 kr (fun _ hd=>(hS.later hd).cell (i:=0) (j:=5) rfl rfl))<|oX (.call [⟨29,false,(bif (bif (bif (!(A8 p0.X (-1048576) 1048576)) then true else (!(A8 p0.Y (-1048576) 1048576))) then true else (!(A8 p0.Z 0 20000))) then true else (!(A8 p0.Rose 1 90)))⟩] 46 #[iv p0.Gates,iv 1,iv 200] (.bool (A8 p0.Gates 1 200))) (show Ob.ok _ Ext _ _ from fun hk w2 hd=>Ca p0.Gates 1 200 _ rfl _ w2 (Ae w2))<|oX (.run [⟨35,false,(bif (bif (bif (bif (!(A8 p0.X (-1048576) 1048576)) then true else (!(A8 p0.Y (-1048576) 1048576))) then true else (!(A8 p0.Z 0 20000))) then true else (!(A8 p0.Rose 1 90))) then true else (!(A8 p0.Gates 1 200)))⟩] (Instr.loadAt 3 (.pointer (some ⟨b1,6,none⟩))) (iv p0.Step)) (ob1 kr (fun _ hd=>(hS.later hd).cell (i:=0) (j:=6) rfl rfl))<|oX (.call [⟨35,false,(bif (bif (bif (bif (!(A8 p0.X (-1048576) 1048576)) then true else (!(A8 p0.Y (-1048576) 1048576))) then true else (!(A8 p0.Z 0 20000))) then true else (!(A8 p0.Rose 1 90))) then true else (!(A8 p0.Gates 1 200)))⟩] 46 #[iv p0.Step,iv 50,iv 2000] (.bool (A8 p0.Step 50 2000))) (show Ob.ok _ Ext _ _ from fun hk w2 hd=>Ca p0.Step 50 2000 _ rfl _ w2 (Ae w2))<|oX (.run [⟨41,false,(bif (bif (bif (bif (bif (!(A8 p0.X (-1048576) 1048576)) then true else (!(A8 p0.Y (-1048576) 1048576))) then true else (!(A8 p0.Z 0 20000))) then true else (!(A8 p0.Rose 1 90))) then true else (!(A8 p0.Gates 1 200))) then true else (!(A8 p0.Step 50 2000)))⟩] (Instr.loadAt 3 (.pointer (some ⟨b1,7,none⟩))) (iv p0.Width)) (ob1 kr (fun _ hd=>(hS.later hd).cell (i:=0) (j:=7) rfl rfl))<|oX (.call [⟨41,false,(bif (bif (bif (bif (bif (!(A8 p0.X (-1048576) 1048576)) then true else (!(A8 p0.Y (-1048576) 1048576))) then true else (!(A8 p0.Z 0 20000))) then true else (!(A8 p0.Rose 1 90))) then true else (!(A8 p0.Gates 1 200))) then true else (!(A8 p0.Step 50 2000)))⟩] 46 #[iv p0.Width,iv 0,iv 8] (.bool (A8 p0.Width 0 8))) (show Ob.ok _ Ext _ _ from fun hk w2 hd=>Ca p0.Width 0 8 _ rfl _ w2 (Ae w2))<|A9) fun a w hF hx=>?_
  replace hS:=hS.later hx
  refine wfn rfl ?_
  refine Ai hF rfl (fun hc=>?_) (fun hc=>?_)
  ·replace h:=Ag h hc
   refine rnB [(2,iv 3)] hF fun a hF=>?_
   refine wpIn_ret (A5<|Ab [.tmp 2] [iv 3] hF rfl ⟨rfl,trivial⟩ ?_)
   obtain rfl:=Ao h
   exact ⟨rfl,hS.ext⟩
  ·replace h:=Af h hc
   refine wpIn_skip (A0 ?_)
   refine rnB [(2,iv 0)] hF fun a hF=>?_
   refine wpIn_ret (Ab [.tmp 2] [iv 0] hF rfl ⟨rfl,trivial⟩ ?_)
   obtain rfl:=Ao h
   exact ⟨rfl,hS.ext⟩
theorem Mg (F:Nat) (p0:api_Span) (res:Bool) (h:J5 F p0=some res) (μ:Frz) (w0:World) (hm:FrzAt μ w0):Calls Tryz.prog 110 #[.agg #[iv p0.Lo,iv p0.Hi]] w0 (fun e w=>e=.returned (.bool res)∧Ext w0 w):=by
 obtain ⟨hlow,hS⟩:=hm.init
 have hext:=Frz.ext_refl w0.heap.size μ
 rw [J5] at h
 refine Ah Tryz.func110 rfl 17 [(0,.agg #[iv p0.Lo,iv p0.Hi])] rfl rfl kr fun a w hw hF=>?_
 replace hS:=hS.cast hw
 clear hw
 refine esr ?_
 refine SK.wi (Ld (t:=146) (fun b1=>[(1,pb b1)]) (.agg #[iv p0.Lo,iv p0.Hi]) #[iv p0.Lo,iv p0.Hi] hF hS kr ⟨kr⟩ kr (fun _=>⟨kr⟩) fun b1 w a hF hS=>?_)
 refine rn 1 2 [(1,pb b1)] hF fun a hF=>?_
 refine wfn rfl ?_
 refine esr ?_
 obtain ⟨x2,hx2,h⟩:=A1 h
 obtain ⟨x3,hx3,h⟩:=A1 h
 refine rX 15 15 [(2,.bool (bif (A8 p0.Lo (-32768) 32767) then (A8 p0.Hi p0.Lo x3) else false))] hF (oL 3 0 0 hS.e rfl rfl<|oC (fun w2 hd=>Ca p0.Lo (-32768) 32767 _ rfl _ w2 (Ae w2))<|oX (.run [⟨6,true,(A8 p0.Lo (-32768) 32767)⟩] (Instr.loadAt 3 (.pointer (some ⟨b1,1,none⟩))) (iv p0.Hi)) (ob1 kr (fun _ hd=>(hS.later hd).cell (i:=0) (j:=1) rfl rfl))<|oX (.run [⟨6,true,(A8 p0.Lo (-32768) 32767)⟩] (Instr.loadAt 3 (pb b1)) (iv p0.Lo)) (ob1 kr (fun _ hd=>(hS.later hd).cell (i:=0) (j:=0) rfl rfl))<|oX (.run [⟨6,true,(A8 p0.Lo (-32768) 32767)⟩] (Instr.loadAt 3 (pb b1)) (iv p0.Lo)) (ob1 kr (fun _ hd=>(hS.later hd).cell (i:=0) (j:=0) rfl rfl))<|oX (.run [⟨6,true,(A8 p0.Lo (-32768) 32767)⟩] (binOp .add 3 (iv p0.Lo) (iv 65536)) (iv x2)) (Px (fun hk=>C9 hx2 hk))<|oX (.run [⟨6,true,(A8 p0.Lo (-32768) 32767)⟩] (binOp .sub 3 (iv x2) (iv 1)) (iv x3)) (R4 (fun hk=>C9 hx3 hk))<|oX (.call [⟨6,true,(A8 p0.Lo (-32768) 32767)⟩] 46 #[iv p0.Hi,iv p0.Lo,iv x3] (.bool (A8 p0.Hi p0.Lo x3))) (show Ob.ok _ Ext _ _ from fun hk w2 hd=>Ca p0.Hi p0.Lo x3 _ rfl _ w2 (Ae w2))<|A9) fun a w hF hx=>?_
 replace hS:=hS.later hx
 refine wfn rfl ?_
 refine wpIn_ret (Ab [.tmp 2] [.bool (bif (A8 p0.Lo (-32768) 32767) then (A8 p0.Hi p0.Lo x3) else false)] hF rfl ⟨rfl,trivial⟩ ?_)
 obtain rfl:=Ao h
 exact ⟨rfl,hS.ext⟩
theorem Me (p0:api_Grid) (res:Int) (h:Bq p0=res) (μ:Frz) (w0:World) (hm:FrzAt μ w0):Calls Tryz.prog 102 #[p0.ag] w0 (fun e w=>e=.returned (iv res)∧Ext w0 w):=by
 obtain ⟨hlow,hS⟩:=hm.init
 have hext:=Frz.ext_refl w0.heap.size μ
 rw [Bq] at h
 refine Ah Tryz.func102 rfl 31 [(0,p0.ag)] rfl rfl kr fun a w hw hF=>?_
 replace hS:=hS.cast hw
 clear hw
 refine esr ?_
 refine SK.wi (Ld (t:=43) (fun b1=>[(1,pb b1)]) (p0.ag) p0.ar hF hS kr ⟨kr⟩ kr (fun _=>⟨kr⟩) fun b1 w a hF hS=>?_)
 refine rn 1 2 [(1,pb b1)] hF fun a hF=>?_
 refine wfn rfl ?_
 refine Ar ?_
 refine esr ?_
 refine rX 28 28 [(30,.bool (bif (bif (bif (bif (!(A8 p0.X (-1048576) 1048576)) then true else (!(A8 p0.Y (-1048576) 1048576))) then true else (!(A8 p0.Size 1 10000))) then true else (!(A8 p0.Wide 1 64))) then true else (!(A8 p0.High 1 64))))] hF (oL 3 0 0 hS.e rfl rfl<|oC (fun w2 hd=>Ca p0.X (-1048576) 1048576 _ rfl _ w2 (Ae w2))<|oX (.run [⟨7,false,(!(A8 p0.X (-1048576) 1048576))⟩] (Instr.loadAt 3 (.pointer (some ⟨b1,1,none⟩))) (iv p0.Y)) (ob1 kr (fun _ hd=>(hS.later hd).cell (i:=0) (j:=1) rfl rfl))<|oX (.call [⟨7,false,(!(A8 p0.X (-1048576) 1048576))⟩] 46 #[iv p0.Y,iv (-1048576),iv 1048576] (.bool (A8 p0.Y (-1048576) 1048576))) (show Ob.ok _ Ext _ _ from fun hk w2 hd=>Ca p0.Y (-1048576) 1048576 _ rfl _ w2 (Ae w2))<|oX (.run [⟨13,false,(bif (!(A8 p0.X (-1048576) 1048576)) then true else (!(A8 p0.Y (-1048576) 1048576)))⟩] (Instr.loadAt 3 (.pointer (some ⟨b1,2,none⟩))) (iv p0.Size)) (ob1 kr (fun _ hd=>(hS.later hd).cell (i:=0) (j:=2) rfl rfl))<|oX (.call [⟨13,false,(bif (!(A8 p0.X (-1048576) 1048576)) then true else (!(A8 p0.Y (-1048576) 1048576)))⟩] 46 #[iv p0.Size,iv 1,iv 10000] (.bool (A8 p0.Size 1 10000))) (show Ob.ok _ Ext _ _ from fun hk w2 hd=>Ca p0.Size 1 10000 _ rfl _ w2 (Ae w2))<|oX (.run [⟨19,false,(bif (bif (!(A8 p0.X (-1048576) 1048576)) then true else (!(A8 p0.Y (-1048576) 1048576))) then true else (!(A8 p0.Size 1 10000)))⟩] (Instr.loadAt 3 (.pointer (some ⟨b1,3,none⟩))) (iv p0.Wide)) (ob1 kr (fun _ hd=>(hS.later hd).cell (i:=0) (j:=3) rfl rfl))<|oX (.call [⟨19,false,(bif (bif (!(A8 p0.X (-1048576) 1048576)) then true else (!(A8 p0.Y (-1048576) 1048576))) then true else (!(A8 p0.Size 1 10000)))⟩] 46 #[iv p0.Wide,iv 1,iv 64] (.bool (A8 p0.Wide 1 64))) (show Ob.ok _ Ext _ _ from fun hk w2 hd=>Ca p0.Wide 1 64 _ rfl _ w2 (Ae w2))<|oX (.run [⟨25,false,(bif (bif (bif (!(A8 p0.X (-1048576) 1048576)) then true else (!(A8 p0.Y (-1048576) 1048576))) then true else (!(A8 p0.Size 1 10000))) then true else (!(A8 p0.Wide 1 64)))⟩] (Instr.loadAt 3 (.pointer (some ⟨b1,4,none⟩))) (iv p0.High)) (ob1 kr (fun _ hd=>(hS.later hd).cell (i:=0) (j:=4) rfl rfl))<|oX (.call [⟨25,false,(bif (bif (bif (!(A8 p0.X (-1048576) 1048576)) then true else (!(A8 p0.Y (-1048576) 1048576))) then true else (!(A8 p0.Size 1 10000))) then true else (!(A8 p0.Wide 1 64)))⟩] 46 #[iv p0.High,iv 1,iv 64] (.bool (A8 p0.High 1 64))) (show Ob.ok _ Ext _ _ from fun hk w2 hd=>Ca p0.High 1 64 _ rfl _ w2 (Ae w2))<|A9) fun a w hF hx=>?_
 replace hS:=hS.later hx
 refine wfn rfl ?_
 refine Ai hF rfl (fun hc=>?_) (fun hc=>?_)
 ·replace h:=Ag h hc
  refine rnB [(2,iv 3)] hF fun a hF=>?_
  refine wpIn_ret (A5<|Ab [.tmp 2] [iv 3] hF rfl ⟨rfl,trivial⟩ ?_)
  subst h
  exact ⟨rfl,hS.ext⟩
 ·replace h:=Af h hc
  refine wpIn_skip (A0 ?_)
  refine rnB [(2,iv 0)] hF fun a hF=>?_
  refine wpIn_ret (Ab [.tmp 2] [iv 0] hF rfl ⟨rfl,trivial⟩ ?_)
  subst h
  exact ⟨rfl,hS.ext⟩
theorem J3 (F:Nat) (p0:ref12_reader) (res:(ByteArray×ref12_reader)) (h:Cy F p0=some res) (μ:Frz) (w0 w1:World) (T_:List Res) (hlow:Ay w0 μ) {cb0:Nat} {ad1:Option Addr} {cap2:Nat} (hA3:ArrM μ 1 (fK .u8) ad1 cap2 p0.b) (hS:St w0 (fz w0 μ::blk cb0 135 #[sv ad1 p0.b cap2,.bool p0.bad]::T_) w1):Bu Tryz.prog 99 #[pb cb0] w1 (fun e w=>∃(ν_:Frz) (a3:Option Addr) (a4:Nat),μ.ext w0.heap.size ν_∧Ay w0 ν_∧e=(.string res.1)∧(ArrM ν_ 1 (fK .u8) a3 a4 res.2.b)∧St w0 (fz w0 ν_::blk cb0 135 #[sv a3 res.2.b a4,.bool res.2.bad]::T_) w):=by
 rw [Cy] at h
 have hext:=Frz.ext_refl w0.heap.size μ
 refine Ah Tryz.func99 rfl 34 [(0,pb cb0)] rfl rfl kr fun a w hw hF=>?_
 replace hS:=hS.cast hw
 clear hw
 refine qnB [] hF fun a hF=>?_
 refine esr ?_
 refine qn 1 1 [(5,pb cb0)] hF fun a hF=>?_
 obtain ⟨y4,hy4,h⟩:=A1 h
 refine SK.wi (qR (fun v7=>[(6,v7)]) hF (Ap F _ _ hy4 μ w0 w _ hlow hA3 hS) ?_)
 rintro v7 w a ⟨ν5,ad8,cap9,hx6,hlow,rfl,a1,hS⟩ hF
 replace hext:=Frz.ext_trans hext hx6
 replace hA3:=hA3.mono hx6.1
 refine qn 1 3 [(3,iv y4.1)] hF fun a hF=>?_
 refine wfn rfl ?_
 refine Ar ?_
 refine qoB [(13,.bool (decide (y4.1>(ln y4.2.b))))] hF (oL 22 1 0 hS.i rfl rfl<|A9) fun a hF=>?_
 refine Ai hF rfl (fun hc=>?_) (fun hc=>?_)
 ·replace h:=Ag h hc
  refine esr ?_
  refine rn 3 3 [(16,.pointer (some ⟨cb0,1,none⟩))] hF fun a hF=>?_
  refine SK.wi (J8 (t:=4) [] 1 1 (.bool true) #[sv ad8 y4.2.b cap9,.bool true] hF hS rfl kr ⟨kr⟩ kr kr kr kr ⟨kr⟩ fun w a hF hS=>?_)
  refine wfn rfl ?_
  refine rnB [(2,.string (⟨#[]⟩:ByteArray))] hF fun a hF=>?_
  refine wpIn_ret (A5<|Ab [.tmp 2] [.string (⟨#[]⟩:ByteArray)] hF rfl ⟨rfl,trivial⟩ ?_)
  obtain rfl:=Ao h
  replace hS:=hS
  exact ⟨_,rfl,ν5,ad8,cap9,hext,hlow,rfl,a1,hS⟩
 ·replace h:=Af h hc
  refine wpIn_skip (A0 ?_)
  refine esr ?_
  obtain ⟨a0,a5,h⟩:=A1 h
  have a7:ArrM ν5 1 (fK .u8) (Aq ad8 cap9 (0:Int).toNat 1) (cap9-(0:Int).toNat) a0:=fun w_ hw_=>(a1 w_ hw_).cutD (Bc .u8) a5
  refine qo 8 8 [(4,.string (bst a0))] hF (oL 22 1 0 hS.i rfl rfl<|oX (.run [] (Instr.sliceAt 22 (sv ad8 y4.2.b cap9) none (some (iv y4.1)) none) (.slice (Aq ad8 cap9 (0:Int).toNat 1) a0.length (cap9-(0:Int).toNat))) (Nx kr (a1 _ (hS.frz (i:=0) rfl hlow)) (fun _=>a5))<|oX (.run [] (convert 22 9 (.slice (Aq ad8 cap9 (0:Int).toNat 1) a0.length (cap9-(0:Int).toNat))) (.string (bst a0))) (Vh kr kr (fun _ hd=>(a7 _ ((hS.at_ hd).frz (i:=0) rfl hlow))))<|A9) fun a hF=>?_
  refine wfn rfl ?_
  refine esr ?_
  obtain ⟨a2,a6,h⟩:=A1 h
  have a8:ArrM ν5 1 (fK .u8) (Aq ad8 cap9 y4.1.toNat 1) (cap9-y4.1.toNat) a2:=fun w_ hw_=>(a1 w_ hw_).cutD (Bc .u8) a6
  refine qo 9 9 [(30,.slice (Aq ad8 cap9 y4.1.toNat 1) a2.length (cap9-y4.1.toNat)),(32,pb cb0)] hF (oL 22 1 0 hS.i rfl rfl<|oX (.run [] (Instr.sliceAt 22 (sv ad8 y4.2.b cap9) (some (iv y4.1)) none none) (.slice (Aq ad8 cap9 y4.1.toNat 1) a2.length (cap9-y4.1.toNat))) (Kq kr (a1 _ (hS.frz (i:=0) rfl hlow)) (fun _=>a6))<|A9) fun a hF=>?_
  refine SK.wi (qs 22 1 0 (.slice (Aq ad8 cap9 y4.1.toNat 1) a2.length (cap9-y4.1.toNat)) hF hS rfl fun w a hF hS=>?_)
  refine wfn rfl ?_
  refine rnB [(2,.string (bst a0))] hF fun a hF=>?_
  refine wpIn_ret (Ab [.tmp 2] [.string (bst a0)] hF rfl ⟨rfl,trivial⟩ ?_)
  obtain rfl:=Ao h
  replace hS:=hS
  exact ⟨_,rfl,ν5,(Aq ad8 cap9 y4.1.toNat 1),(cap9-y4.1.toNat),hext,hlow,rfl,a8,hS⟩
theorem Df (F:Nat) (p0:ref12_reader) (res:(Int×ref12_reader)) (h:B5 F p0=some res) (μ:Frz) (w0 w1:World) (T_:List Res) (hlow:Ay w0 μ) {cb0:Nat} {ad1:Option Addr} {cap2:Nat} (hA3:ArrM μ 1 (fK .u8) ad1 cap2 p0.b) (hS:St w0 (fz w0 μ::blk cb0 135 #[sv ad1 p0.b cap2,.bool p0.bad]::T_) w1):Bu Tryz.prog 100 #[pb cb0] w1 (fun e w=>∃(ν_:Frz) (a0:Option Addr) (a1:Nat),μ.ext w0.heap.size ν_∧Ay w0 ν_∧e=(iv res.1)∧(ArrM ν_ 1 (fK .u8) a0 a1 res.2.b)∧St w0 (fz w0 ν_::blk cb0 135 #[sv a0 res.2.b a1,.bool res.2.bad]::T_) w):=by
 rw [B5] at h
 have hext:=Frz.ext_refl w0.heap.size μ
 refine Ah Tryz.func100 rfl 15 [(0,pb cb0)] rfl rfl kr fun a w hw hF=>?_
 replace hS:=hS.cast hw
 clear hw
 refine qnB [] hF fun a hF=>?_
 refine esr ?_
 refine rn 1 1 [(4,pb cb0)] hF fun a hF=>?_
 obtain ⟨y4,hy4,h⟩:=A1 h
 refine SK.wi (rR (fun v7=>[(5,v7)]) hF (Ap F _ _ hy4 μ w0 w _ hlow hA3 hS) ?_)
 rintro v7 w a ⟨ν5,ad8,cap9,hx6,hlow,rfl,a2,hS⟩ hF
 replace hext:=Frz.ext_trans hext hx6
 replace hA3:=hA3.mono hx6.1
 refine rn 1 3 [(3,iv y4.1)] hF fun a hF=>?_
 refine wfn rfl ?_
 refine Ar ?_
 refine esr ?_
 obtain ⟨a9,a5,h⟩:=A1 h
 refine qo 3 3 [(8,.bool (a9==1))] hF (oR 3 a5<|A9) fun a hF=>?_
 refine wfn rfl ?_
 refine Ai hF rfl (fun hc=>?_) (fun hc=>?_)
 ·replace h:=Ag h hc
  refine esr ?_
  obtain ⟨aA,a6,h⟩:=A1 h
  obtain ⟨a3,a7,h⟩:=A1 h
  refine ro 5 5 [(2,iv a3)] hF (oA 3 a6<|oQ 3 a7<|A9) fun a hF=>?_
  refine wfn rfl ?_
  refine wpIn_ret (A5<|Ab [.tmp 2] [iv a3] hF rfl ⟨rfl,trivial⟩ ?_)
  obtain rfl:=Ao h
  replace hS:=hS
  exact ⟨_,rfl,ν5,ad8,cap9,hext,hlow,rfl,a2,hS⟩
 ·replace h:=Af h hc
  refine wpIn_skip (A0 ?_)
  refine esr ?_
  obtain ⟨a4,a8,h⟩:=A1 h
  refine ro 3 3 [(2,iv a4)] hF (oQ 3 a8<|A9) fun a hF=>?_
  refine wfn rfl ?_
  refine wpIn_ret (Ab [.tmp 2] [iv a4] hF rfl ⟨rfl,trivial⟩ ?_)
  obtain rfl:=Ao h
  replace hS:=hS
  exact ⟨_,rfl,ν5,ad8,cap9,hext,hlow,rfl,a2,hS⟩
theorem Lh (F:Nat) (p0:ref12_reader) (p1:Int) (res:(Int×ref12_reader)) (h:E5 F p0 p1=some res) (μ:Frz) (w0 w1:World) (T_:List Res) (hlow:Ay w0 μ) {cb0:Nat} {ad1:Option Addr} {cap2:Nat} (hA3:ArrM μ 1 (fK .u8) ad1 cap2 p0.b) (hS:St w0 (fz w0 μ::blk cb0 135 #[sv ad1 p0.b cap2,.bool p0.bad]::T_) w1):Bu Tryz.prog 123 #[pb cb0,iv p1] w1 (fun e w=>∃(ν_:Frz) (a0:Option Addr) (a1:Nat),μ.ext w0.heap.size ν_∧Ay w0 ν_∧e=(iv res.1)∧(ArrM ν_ 1 (fK .u8) a0 a1 res.2.b)∧St w0 (fz w0 ν_::blk cb0 135 #[sv a0 res.2.b a1,.bool res.2.bad]::T_) w):=by
 rw [E5] at h
 have hext:=Frz.ext_refl w0.heap.size μ
 refine Ah Tryz.func123 rfl 15 [(0,pb cb0),(1,iv p1)] rfl rfl kr fun a w hw hF=>?_
 replace hS:=hS.cast hw
 clear hw
 refine qnB [] hF fun a hF=>?_
 refine esr ?_
 refine qn 1 1 [(6,pb cb0)] hF fun a hF=>?_
 obtain ⟨y4,hy4,h⟩:=A1 h
 refine SK.wi (qR (fun v7=>[(7,v7)]) hF (Ap F _ _ hy4 μ w0 w _ hlow hA3 hS) ?_)
 rintro v7 w a ⟨ν5,ad8,cap9,hx6,hlow,rfl,a2,hS⟩ hF
 replace hext:=Frz.ext_trans hext hx6
 replace hA3:=hA3.mono hx6.1
 refine qn 1 3 [(5,iv y4.1)] hF fun a hF=>?_
 refine wfn rfl ?_
 refine Ar ?_
 refine qnB [(10,.bool (decide (y4.1>p1)))] hF fun a hF=>?_
 refine Ai hF rfl (fun hc=>?_) (fun hc=>?_)
 ·replace h:=Ag h hc
  refine esr ?_
  refine rn 3 3 [(13,.pointer (some ⟨cb0,1,none⟩))] hF fun a hF=>?_
  refine SK.wi (J8 (t:=4) [] 1 1 (.bool true) #[sv ad8 y4.2.b cap9,.bool true] hF hS rfl kr ⟨kr⟩ kr kr kr kr ⟨kr⟩ fun w a hF hS=>?_)
  refine wfn rfl ?_
  refine rnB [(4,iv 0)] hF fun a hF=>?_
  refine wpIn_ret (A5<|Ab [.tmp 4] [iv 0] hF rfl ⟨rfl,trivial⟩ ?_)
  obtain rfl:=Ao h
  replace hS:=hS
  exact ⟨_,rfl,ν5,ad8,cap9,hext,hlow,rfl,a2,hS⟩
 ·replace h:=Af h hc
  refine wpIn_skip (A0 ?_)
  refine rnB [(4,iv y4.1)] hF fun a hF=>?_
  refine wpIn_ret (Ab [.tmp 4] [iv y4.1] hF rfl ⟨rfl,trivial⟩ ?_)
  obtain rfl:=Ao h
  replace hS:=hS
  exact ⟨_,rfl,ν5,ad8,cap9,hext,hlow,rfl,a2,hS⟩
end Go.Proofs.YtifbomimeodibaaGreat
