import Derived.Test.YtifbomimeodibaaGreatV5XD
import Derived.Test.YtifbomimeodibaaGreatProg
import Derived.Test.YtifbomimeodibaaGreatV5XW0
import Derived.Test.YtifbomimeodibaaGreatV5XW1
import Derived.Test.YtifbomimeodibaaGreatV5XW2
namespace Go.Proofs.YtifbomimeodibaaGreat
open Go Go.RowKit Go.Eng
set_option maxRecDepth 10000
set_option maxHeartbeats 4000000
set_option linter.unusedVariables false
set_option linter.unusedSimpArgs false
theorem J2 (F:Nat) (p0:volume_reader) (res:Except (Value×volume_reader) (ByteArray×volume_reader)) (h:E5 F p0=some res) (μ:Frz) (w0 w1:World) (T_:List Res) (hlow:Ax w0 μ) {cb0:Nat} {ad1:Option Addr} {cap2:Nat} (hA3:ArrM μ 1 (fK .u8) ad1 cap2 p0.b) (hS:St w0 (fz w0 μ::blk cb0 125 #[sv ad1 p0.b cap2]::T_) w1):Py Tryz.prog 91 #[pb cb0] w1 res (fun r_ e w=>∃(ν_:Frz) (a5:Option Addr) (a7:Nat),μ.ext w0.heap.size ν_∧Ax w0 ν_∧e=(.string r_.1)∧(ArrM ν_ 1 (fK .u8) a5 a7 r_.2.b)∧St w0 (fz w0 ν_::blk cb0 125 #[sv a5 r_.2.b a7]::T_) w) (fun e_ w=>∃(ν_:Frz) (a6:Option Addr) (a8:Nat),μ.ext w0.heap.size ν_∧Ax w0 ν_∧(ArrM ν_ 1 (fK .u8) a6 a8 e_.b)∧St w0 (fz w0 ν_::blk cb0 125 #[sv a6 e_.b a8]::T_) w):=by
 rw [E5] at h
 have hext:=Frz.ext_refl w0.heap.size μ
 refine feW Tryz.func91 32 [(0,pb cb0)] hS fun a w hF hS=>?_
 refine qnB [] hF fun a hF=>?_
 refine esr<|qn 1 1 [(5,pb cb0)] hF fun a hF=>?_
 obtain ⟨y4,hy4,h⟩:=A0 h
 refine Ee (fun v9=>[(0,pb cb0),(6,v9)]) hF kr ⟨kr⟩ (Ai F _ _ hy4 μ w0 w _ hlow hA3 hS) (fun _=>⟨kr⟩) ?_ ?_
 ·rintro e6 w he_ ⟨ν13,aC,aD,aB,hlow,aE,hS⟩
  replace h:=H0 h he_
  replace hext:=hext.t aB
  replace hA3:=hA3.mono aB.1
  refine A6<|Az hF ?_
  obtain rfl:=Ae h
  replace hS:=hS
  exact .inr ⟨_,rfl,rfl,ν13,aC,aD,hext,hlow,aE,hS⟩
 rintro y5 v9 w a he_ ⟨ν7,a1,a0,hx8,hlow,rfl,a3,hS⟩ hF
 replace h:=H3 h he_
 replace hext:=hext.t hx8
 replace hA3:=hA3.mono hx8.1
 refine rn 1 3 [(0,pb cb0),(3,iv y5.1)] hF fun a hF=>wfn rfl ?_
 refine Dx (fun a w=>Fr 32 [] [(0,pb cb0),(3,iv y5.1)] a∧St w0 (fz w0 ν7::blk cb0 125 #[sv a1 y5.2.b a0]::T_) w∧Ga y5=some res) ?_ ?_
 ·skip
  refine qoB [(13,.bool (decide (y5.1>(ln y5.2.b))))] hF (oL 22 1 0 hS.i rfl rfl<|A1) fun a hF=>?_
  refine A8 hF h (fun hc h=>?_) fun hc h=>?_
  ·refine WI.region<|qn 1 1 [(14,.iface 128 (iv 7))] hF fun a hF=>?_
   refine Qa (t:=128) (v:=iv 7) hF ⟨kr⟩ (A6<|Az hF ?_)
   obtain rfl:=Ae h
   replace hS:=hS
   exact .inr ⟨_,rfl,rfl,ν7,a1,a0,hext,hlow,a3,hS⟩
  ·refine wK ?_
   exact ⟨hF.sub kr,hS,h⟩
 rintro a w ⟨hF,hS,h⟩
 rw [Ga] at h
 refine esr ?_
 obtain ⟨a2,a9,h⟩:=A0 h
 have aF:ArrM ν7 1 (fK .u8) (Al a1 a0 (0:Int).toNat 1) (a0-(0:Int).toNat) a2:=fun w_ hw_=>(a3 w_ hw_).cutD (B8 .u8) a9
 refine qo 8 8 [(4,.string (bst a2))] hF (oL 22 1 0 hS.i rfl rfl<|oX (.run [] (Instr.sliceAt 22 (sv a1 y5.2.b a0) none (some (iv y5.1)) none) (.slice (Al a1 a0 (0:Int).toNat 1) a2.length (a0-(0:Int).toNat))) (Nl kr (a3 _ (hS.frz (i:=0) rfl hlow)) (fun _=>a9))<|oX (.run [] (convert 22 9 (.slice (Al a1 a0 (0:Int).toNat 1) a2.length (a0-(0:Int).toNat))) (.string (bst a2))) (Xq kr kr (fun _ hd=>(aF _ ((hS.at_ hd).frz (i:=0) rfl hlow))))<|A1) fun a hF=>wfn rfl ?_
 refine esr ?_
 obtain ⟨a4,aA,h⟩:=A0 h
 have aG:ArrM ν7 1 (fK .u8) (Al a1 a0 y5.1.toNat 1) (a0-y5.1.toNat) a4:=fun w_ hw_=>(a3 w_ hw_).cutD (B8 .u8) aA
 refine qo 9 9 [(28,.slice (Al a1 a0 y5.1.toNat 1) a4.length (a0-y5.1.toNat)),(30,pb cb0)] hF (oL 22 1 0 hS.i rfl rfl<|oX (.run [] (Instr.sliceAt 22 (sv a1 y5.2.b a0) (some (iv y5.1)) none none) (.slice (Al a1 a0 y5.1.toNat 1) a4.length (a0-y5.1.toNat))) (Lv kr (a3 _ (hS.frz (i:=0) rfl hlow)) (fun _=>aA))<|A1) fun a hF=>?_
 refine SK.wi (qs 22 1 0 (.slice (Al a1 a0 y5.1.toNat 1) a4.length (a0-y5.1.toNat)) hF hS rfl fun w a hF hS=>wfn rfl ?_)
 refine rnB [(2,.string (bst a2))] hF fun a hF=>?_
 refine wpIn_ret (A7 [.tmp 2] [_] hF rfl ⟨rfl,trivial⟩ ?_)
 obtain rfl:=Ae h
 replace hS:=hS
 exact .inl ⟨_,_,rfl,rfl,ν7,(Al a1 a0 y5.1.toNat 1),(a0-y5.1.toNat),hext,hlow,rfl,aG,hS⟩
theorem E2 (F:Nat) (p0:volume_reader) (res:Except (Value×volume_reader) (Int×volume_reader)) (h:Bw F p0=some res) (μ:Frz) (w0 w1:World) (T_:List Res) (hlow:Ax w0 μ) {cb0:Nat} {ad1:Option Addr} {cap2:Nat} (hA3:ArrM μ 1 (fK .u8) ad1 cap2 p0.b) (hS:St w0 (fz w0 μ::blk cb0 125 #[sv ad1 p0.b cap2]::T_) w1):Py Tryz.prog 92 #[pb cb0] w1 res (fun r_ e w=>∃(ν_:Frz) (a1:Option Addr) (a4:Nat),μ.ext w0.heap.size ν_∧Ax w0 ν_∧e=(iv r_.1)∧(ArrM ν_ 1 (fK .u8) a1 a4 r_.2.b)∧St w0 (fz w0 ν_::blk cb0 125 #[sv a1 r_.2.b a4]::T_) w) (fun e_ w=>∃(ν_:Frz) (a2:Option Addr) (a5:Nat),μ.ext w0.heap.size ν_∧Ax w0 ν_∧(ArrM ν_ 1 (fK .u8) a2 a5 e_.b)∧St w0 (fz w0 ν_::blk cb0 125 #[sv a2 e_.b a5]::T_) w):=by
 rw [Bw] at h
 have hext:=Frz.ext_refl w0.heap.size μ
 refine feW Tryz.func92 15 [(0,pb cb0)] hS fun a w hF hS=>?_
 refine qnB [] hF fun a hF=>?_
 refine esr<|rn 1 1 [(4,pb cb0)] hF fun a hF=>?_
 obtain ⟨y4,hy4,h⟩:=A0 h
 refine Ee (fun v9=>[(5,v9)]) hF kr ⟨kr⟩ (Ai F _ _ hy4 μ w0 w _ hlow hA3 hS) (fun _=>⟨kr⟩) ?_ ?_
 ·rintro e6 w he_ ⟨ν13,a8,a9,a7,hlow,aA,hS⟩
  replace h:=H0 h he_
  replace hext:=hext.t a7
  replace hA3:=hA3.mono a7.1
  refine A6<|Az hF ?_
  obtain rfl:=Ae h
  replace hS:=hS
  exact .inr ⟨_,rfl,rfl,ν13,a8,a9,hext,hlow,aA,hS⟩
 rintro y5 v9 w a he_ ⟨ν7,a0,a3,hx8,hlow,rfl,a6,hS⟩ hF
 replace h:=H3 h he_
 replace hext:=hext.t hx8
 replace hA3:=hA3.mono hx8.1
 refine rn 1 3 [(3,iv y5.1)] hF fun a hF=>wfn rfl ?_
 refine Am<|esr ?_
 obtain ⟨aF,aB,h⟩:=A0 h
 refine qo 3 3 [(8,.bool (aF==1))] hF (oR 3 aB<|A1) fun a hF=>wfn rfl ?_
 refine A8 hF h (fun hc h=>?_) fun hc h=>?_
 ·refine esr ?_
  obtain ⟨aI,aC,h⟩:=A0 h
  obtain ⟨aG,aD,h⟩:=A0 h
  refine ro 5 5 [(2,iv aG)] hF (oA 3 aC<|oQ 3 aD<|A1) fun a hF=>wfn rfl ?_
  refine wpIn_ret (A2<|A7 [.tmp 2] [_] hF rfl ⟨rfl,trivial⟩ ?_)
  obtain rfl:=Ae h
  replace hS:=hS
  exact .inl ⟨_,_,rfl,rfl,ν7,a0,a3,hext,hlow,rfl,a6,hS⟩
 ·refine wK<|esr ?_
  obtain ⟨aH,aE,h⟩:=A0 h
  refine ro 3 3 [(2,iv aH)] hF (oQ 3 aE<|A1) fun a hF=>wfn rfl ?_
  refine wpIn_ret (A7 [.tmp 2] [_] hF rfl ⟨rfl,trivial⟩ ?_)
  obtain rfl:=Ae h
  replace hS:=hS
  exact .inl ⟨_,_,rfl,rfl,ν7,a0,a3,hext,hlow,rfl,a6,hS⟩
theorem Pa (F:Nat) (p0:api_Site) (res:Int) (h:Fj F p0=some res) (μ:Frz) (w0:World) (hm:FrzAt μ w0):Calls Tryz.prog 93 #[p0.ag] w0 (fun e w=>e=.returned (iv res)∧Ext w0 w):=by
 obtain ⟨hlow,hS⟩:=hm.init
 have hext:=Frz.ext_refl w0.heap.size μ
 rw [Fj] at h
 refine feW Tryz.func93 38 [(0,p0.ag)] hS fun a w hF hS=>?_
 refine esr<|SK.wi (qBa 38 p0.ar (fun b1=>[(1,pb b1)]) hF hS fun b1 w a hF hS=>?_)
 refine qn 1 2 [] hF fun a hF=>wfn rfl ?_
 refine Am<|wpIn_block<|esr ?_
 obtain ⟨y2,hy2,h⟩:=A0 h
 refine qx 5 5 [(3,.bool (!y2))] hF (oL 9 0 0 hS.e rfl rfl<|oC (fun w2 hd=>Sx F p0.Name _ hy2 _ w2 (A4 w2))<|A1) fun a w hF hx=>?_
 replace hS:=hS.later hx
 refine wfn rfl ?_
 refine A8 hF h (fun hc h=>?_) fun hc h=>?_
 ·refine rnB [(2,iv 10)] hF fun a hF=>?_
  refine wpIn_ret (Ab<|A2<|A7 [.tmp 2] [_] hF rfl ⟨rfl,trivial⟩ ?_)
  obtain rfl:=Ae h
  exact ⟨rfl,hS.ext⟩
 ·refine Dx (fun a w=>∃(c3:Bool),Fr 38 [] [(1,pb b1),(8,.bool c3)] a∧St w0 [blk b1 38 p0.ar,fz w0 μ] w∧Ep p0 c3=some res) ?_ ?_
  ·skip
   refine esr<|qx 5 5 [(8,.bool (!(Ac p0.X (-1048576) 1048576)))] hF (oL 3 0 1 hS.e rfl rfl<|oC (fun w2 hd=>D5 p0.X (-1048576) 1048576 _ rfl _ w2 (A4 w2))<|A1) fun a w hF hx=>?_
   replace hS:=hS.later hx
   refine wfn rfl ?_
   refine A8 hF h (fun hc h=>?_) fun hc h=>?_
   ·refine wK ?_
    exact ⟨!(Ac p0.X (-1048576) 1048576),hF.sub kr,St.pick [0,1] (by decide) hS,h⟩
   ·refine esr<|rX 5 5 [(1,pb b1),(8,.bool (!(Ac p0.Y (-1048576) 1048576)))] hF (oL 3 0 2 hS.e rfl rfl<|oC (fun w2 hd=>D5 p0.Y (-1048576) 1048576 _ rfl _ w2 (A4 w2))<|A1) fun a w hF hx=>?_
    replace hS:=hS.later hx
    refine wfn rfl ?_
    refine A8 hF h (fun hc h=>?_) fun hc h=>?_
    ·refine wK ?_
     exact ⟨!(Ac p0.Y (-1048576) 1048576),hF.sub kr,St.pick [0,1] (by decide) hS,h⟩
    ·refine WI.region<|rX 5 5 [(1,pb b1),(8,.bool (!(Ac p0.Z 0 20000)))] hF (oL 3 0 3 hS.e rfl rfl<|oC (fun w2 hd=>D5 p0.Z 0 20000 _ rfl _ w2 (A4 w2))<|A1) fun a w hF hx=>?_
     replace hS:=hS.later hx
     refine wfn rfl ?_
     exact ⟨!(Ac p0.Z 0 20000),hF.sub kr,St.pick [0,1] (by decide) hS,h⟩
  rintro a w ⟨c3,hF,hS,h⟩
  rw [Ep] at h
  refine A8 hF h (fun hc h=>?_) fun hc h=>?_
  ·refine rnB [(2,iv 3)] hF fun a hF=>?_
   refine wpIn_ret (Ab<|A2<|A7 [.tmp 2] [_] hF rfl ⟨rfl,trivial⟩ ?_)
   obtain rfl:=Ae h
   exact ⟨rfl,hS.ext⟩
  ·refine Dx (fun a w=>∃(c4:Bool),Fr 38 [] [(21,.bool c4)] a∧St w0 [blk b1 38 p0.ar,fz w0 μ] w∧E8 c4=some res) ?_ ?_
   ·skip
    refine esr<|rX 5 5 [(1,pb b1),(21,.bool (!(Ac p0.Rose 1 90)))] hF (oL 3 0 4 hS.e rfl rfl<|oC (fun w2 hd=>D5 p0.Rose 1 90 _ rfl _ w2 (A4 w2))<|A1) fun a w hF hx=>?_
    replace hS:=hS.later hx
    refine wfn rfl ?_
    refine A8 hF h (fun hc h=>?_) fun hc h=>?_
    ·refine wK ?_
     exact ⟨!(Ac p0.Rose 1 90),hF.sub kr,St.pick [0,1] (by decide) hS,h⟩
    ·refine esr<|rX 5 5 [(1,pb b1),(21,.bool (!(Ac p0.Gates 1 200)))] hF (oL 3 0 5 hS.e rfl rfl<|oC (fun w2 hd=>D5 p0.Gates 1 200 _ rfl _ w2 (A4 w2))<|A1) fun a w hF hx=>?_
     replace hS:=hS.later hx
     refine wfn rfl ?_
     refine A8 hF h (fun hc h=>?_) fun hc h=>?_
     ·refine wK ?_
      exact ⟨!(Ac p0.Gates 1 200),hF.sub kr,St.pick [0,1] (by decide) hS,h⟩
     ·refine esr<|rX 5 5 [(1,pb b1),(21,.bool (!(Ac p0.Step 50 2000)))] hF (oL 3 0 6 hS.e rfl rfl<|oC (fun w2 hd=>D5 p0.Step 50 2000 _ rfl _ w2 (A4 w2))<|A1) fun a w hF hx=>?_
      replace hS:=hS.later hx
      refine wfn rfl ?_
      refine A8 hF h (fun hc h=>?_) fun hc h=>?_
      ·refine wK ?_
       exact ⟨!(Ac p0.Step 50 2000),hF.sub kr,St.pick [0,1] (by decide) hS,h⟩
      ·refine WI.region<|rX 5 5 [(21,.bool (!(Ac p0.Width 0 8)))] hF (oL 3 0 7 hS.e rfl rfl<|oC (fun w2 hd=>D5 p0.Width 0 8 _ rfl _ w2 (A4 w2))<|A1) fun a w hF hx=>?_
       replace hS:=hS.later hx
       refine wfn rfl ?_
       exact ⟨!(Ac p0.Width 0 8),hF.sub kr,St.pick [0,1] (by decide) hS,h⟩
   rintro a w ⟨c4,hF,hS,h⟩
   rw [E8] at h
   refine A8 hF h (fun hc h=>?_) fun hc h=>?_
   ·refine rnB [(2,iv 3)] hF fun a hF=>?_
    refine wpIn_ret (Ab<|A2<|A7 [.tmp 2] [_] hF rfl ⟨rfl,trivial⟩ ?_)
    obtain rfl:=Ae h
    exact ⟨rfl,hS.ext⟩
   ·refine wpIn_skip (A9<|A3<|?_)
    refine rnB [(2,iv 0)] hF fun a hF=>?_
    refine wpIn_ret (A7 [.tmp 2] [_] hF rfl ⟨rfl,trivial⟩ ?_)
    obtain rfl:=Ae h
    exact ⟨rfl,hS.ext⟩
theorem P9 (p0:api_Grid) (res:Int) (h:Bn p0=res) (μ:Frz) (w0:World) (hm:FrzAt μ w0):Calls Tryz.prog 96 #[p0.ag] w0 (fun e w=>e=.returned (iv res)∧Ext w0 w):=by
 obtain ⟨hlow,hS⟩:=hm.init
 have hext:=Frz.ext_refl w0.heap.size μ
 rw [Bn] at h
 refine feW Tryz.func96 24 [(0,p0.ag)] hS fun a w hF hS=>?_
 refine esr<|SK.wi (qBa 43 p0.ar (fun b1=>[(1,pb b1)]) hF hS fun b1 w a hF hS=>?_)
 refine qn 1 2 [] hF fun a hF=>wfn rfl ?_
 refine Am<|wpIn_block<|Dx (fun a w=>∃(c2:Bool),Fr 24 [] [(3,.bool c2)] a∧St w0 [blk b1 43 p0.ar,fz w0 μ] w∧Dk c2=res) ?_ ?_
 ·skip
  refine esr<|qx 5 5 [(3,.bool (!(Ac p0.X (-1048576) 1048576)))] hF (oL 3 0 0 hS.e rfl rfl<|oC (fun w2 hd=>D5 p0.X (-1048576) 1048576 _ rfl _ w2 (A4 w2))<|A1) fun a w hF hx=>?_
  replace hS:=hS.later hx
  refine wfn rfl ?_
  refine A8 hF h (fun hc h=>?_) fun hc h=>?_
  ·refine wK ?_
   exact ⟨!(Ac p0.X (-1048576) 1048576),hF.sub kr,St.pick [0,1] (by decide) hS,h⟩
  ·refine esr<|rX 5 5 [(1,pb b1),(3,.bool (!(Ac p0.Y (-1048576) 1048576)))] hF (oL 3 0 1 hS.e rfl rfl<|oC (fun w2 hd=>D5 p0.Y (-1048576) 1048576 _ rfl _ w2 (A4 w2))<|A1) fun a w hF hx=>?_
   replace hS:=hS.later hx
   refine wfn rfl ?_
   refine A8 hF h (fun hc h=>?_) fun hc h=>?_
   ·refine wK ?_
    exact ⟨!(Ac p0.Y (-1048576) 1048576),hF.sub kr,St.pick [0,1] (by decide) hS,h⟩
   ·refine esr<|rX 5 5 [(1,pb b1),(3,.bool (!(Ac p0.Size 1 10000)))] hF (oL 3 0 2 hS.e rfl rfl<|oC (fun w2 hd=>D5 p0.Size 1 10000 _ rfl _ w2 (A4 w2))<|A1) fun a w hF hx=>?_
    replace hS:=hS.later hx
    refine wfn rfl ?_
    refine A8 hF h (fun hc h=>?_) fun hc h=>?_
    ·refine wK ?_
     exact ⟨!(Ac p0.Size 1 10000),hF.sub kr,St.pick [0,1] (by decide) hS,h⟩
    ·refine esr<|rX 5 5 [(1,pb b1),(3,.bool (!(Ac p0.Wide 1 64)))] hF (oL 3 0 3 hS.e rfl rfl<|oC (fun w2 hd=>D5 p0.Wide 1 64 _ rfl _ w2 (A4 w2))<|A1) fun a w hF hx=>?_
     replace hS:=hS.later hx
     refine wfn rfl ?_
     refine A8 hF h (fun hc h=>?_) fun hc h=>?_
     ·refine wK ?_
      exact ⟨!(Ac p0.Wide 1 64),hF.sub kr,St.pick [0,1] (by decide) hS,h⟩
     ·refine WI.region<|rX 5 5 [(3,.bool (!(Ac p0.High 1 64)))] hF (oL 3 0 4 hS.e rfl rfl<|oC (fun w2 hd=>D5 p0.High 1 64 _ rfl _ w2 (A4 w2))<|A1) fun a w hF hx=>?_
      replace hS:=hS.later hx
      refine wfn rfl ?_
      exact ⟨!(Ac p0.High 1 64),hF.sub kr,St.pick [0,1] (by decide) hS,h⟩
 rintro a w ⟨c2,hF,hS,h⟩
 rw [Dk] at h
 refine A8 hF h (fun hc h=>?_) fun hc h=>?_
 ·refine rnB [(2,iv 3)] hF fun a hF=>?_
  refine wpIn_ret (Ab<|A2<|A7 [.tmp 2] [_] hF rfl ⟨rfl,trivial⟩ ?_)
  subst h
  exact ⟨rfl,hS.ext⟩
 ·refine wpIn_skip (A9<|A3<|?_)
  refine rnB [(2,iv 0)] hF fun a hF=>?_
  refine wpIn_ret (A7 [.tmp 2] [_] hF rfl ⟨rfl,trivial⟩ ?_)
  subst h
  exact ⟨rfl,hS.ext⟩
theorem Tw (F:Nat) (p0:(List api_Span)) (res:Bool) (h:Kg F p0=some res) (μ:Frz) (w0:World) (hm:FrzAt μ w0) {ad1:Option Addr} {cap2:Nat} (hA3:ArrM μ 2 api_Span.cells ad1 cap2 p0):Calls Tryz.prog 175 #[sv ad1 p0 cap2] w0 (fun e w=>e=.returned (.bool res)∧Ext w0 w):=by
 obtain ⟨hlow,hS⟩:=hm.init
 have hext:=Frz.ext_refl w0.heap.size μ
 rw [Kg] at h
 refine feW Tryz.func175 28 [(0,sv ad1 p0 cap2)] hS fun a w hF hS=>?_
 refine qnB [] hF fun a hF=>?_
 refine Dx (fun a w=>Fr 28 [] [] a∧St w0 [fz w0 μ] w∧K6=some res) ?_ ?_
 ·skip
  refine rnB [(5,sv ad1 p0 cap2),(6,iv (ln p0)),(7,iv 0)] hF fun a hF=>?_
  refine wpIn_block<|Ck (fun n_ a w=>∃(a1:Int),Fr 28 [] [(5,sv ad1 p0 cap2),(6,iv (ln p0)),(7,iv a1)] a∧St w0 [fz w0 μ] w∧Ei p0 n_ a1=some res) F ⟨0,hF.sub kr,St.pick [0] (by decide) hS,h⟩ ?_
  rintro nk2 a w ⟨a1,hF,hS,h⟩
  rcases nk2 with _|nk2
  ·cases (show (none:Option Bool)=some res from h)
  obtain ⟨k2,hk2⟩:∃k,k=Ei p0 nk2:=⟨_,rfl⟩
  replace h:Gh p0 k2 a1=some res:=by rw [hk2];exact h
  rw [Gh] at h
  refine qnB [(8,.bool (decide (a1<(ln p0))))] hF fun a hF=>?_
  refine Am<|A8 hF h (fun hc h=>?_) fun hc h=>?_
  ·refine wK<|Am<|wpIn_block<|esr ?_
   obtain ⟨a0,a4,h⟩:=A0 h
   refine qo 2 2 [(10,.agg #[iv a0.Lo,iv a0.Hi])] hF (oI 44 (hA3 _ (hS.frz (i:=0) rfl hlow)) a4<|oG 146 0 2 api_Span.cells_len (fun _ hd=>(hA3 _ ((hS.at_ hd).frz (i:=0) rfl hlow))) a4<|A1) fun a hF=>?_
   refine SK.wi (qA 146 #[iv 0,iv 0] (fun a3=>[(4,pb a3)]) hF hS fun a3 w a hF hS=>?_)
   refine SK.wi (qw 146 0 #[iv a0.Lo,iv a0.Hi] hF hS rfl fun w a hF hS=>wfn rfl ?_)
   refine esr ?_
   obtain ⟨a5,a7,h⟩:=A0 h
   obtain ⟨a2,a8,h⟩:=A0 h
   refine qx 16 16 [(26,.bool (bif (!(Aw a0.Lo (-32768) 32767)) then true else (!(Aw a0.Hi a0.Lo a2))))] hF (oL 3 0 0 hS.e rfl rfl<|oC (fun w2 hd=>J8 a0.Lo (-32768) 32767 _ rfl _ w2 (A4 w2))<|oGs [⟨15,false,(!(Aw a0.Lo (-32768) 32767))⟩] (oL 3 0 1 hS.e rfl rfl<|oL 3 0 0 hS.e rfl rfl<|oL 3 0 0 hS.e rfl rfl<|A1)<|oX (.run [⟨15,false,(!(Aw a0.Lo (-32768) 32767))⟩] (binOp .add 3 (iv a0.Lo) (iv 65536)) (iv a5)) (Ve (fun hk=>Bt a7 hk))<|oX (.run [⟨15,false,(!(Aw a0.Lo (-32768) 32767))⟩] (binOp .sub 3 (iv a5) (iv 1)) (iv a2)) (Sh (fun hk=>Bt a8 hk))<|oGs [⟨15,false,(!(Aw a0.Lo (-32768) 32767))⟩] (oC (fun w2 hd=>J8 a0.Hi a0.Lo a2 _ rfl _ w2 (A4 w2))<|A1)<|A1) fun a w hF hx=>?_
   replace hS:=hS.later hx
   refine wfn rfl ?_
   refine A8 hF h (fun hc h=>?_) fun hc h=>?_
   ·refine rnB [(2,.bool false)] hF fun a hF=>?_
    refine wpIn_ret (Ab<|A2<|A2<|Ab<|A2<|A7 [.tmp 2] [_] hF rfl ⟨rfl,trivial⟩ ?_)
    obtain rfl:=Ae h
    exact ⟨rfl,hS.ext⟩
   ·refine wpIn_skip (A9<|A3<|?_)
    refine WI.region ?_
    obtain ⟨a6,a9,h⟩:=A0 h
    refine ro 2 2 [(5,sv ad1 p0 cap2),(6,iv (ln p0)),(7,iv a6)] hF (oA 3 a9<|A1) fun a hF=>wfn rfl ?_
    rw [hk2] at h
    exact ⟨nk2,Nat.lt_succ_self _,a6,hF.sub kr,St.pick [1] (by decide) hS,h⟩
  ·refine wpIn_exit (A5<|A5<|Ar<|A3 ?_)
   exact ⟨hF.sub kr,St.pick [0] (by decide) hS,h⟩
 rintro a w ⟨hF,hS,h⟩
 rw [K6] at h
 refine rnB [(2,.bool true)] hF fun a hF=>?_
 refine wpIn_ret (A7 [.tmp 2] [_] hF rfl ⟨rfl,trivial⟩ ?_)
 obtain rfl:=Ae h
 exact ⟨rfl,hS.ext⟩
theorem J4 (F:Nat) (p0:volume_writer) (p1:ByteArray) (res:volume_writer) (h:E7 F p0 p1=some res) (μ:Frz) (w0 w1:World) (T_:List Res) (hlow:Ax w0 μ) {cb0:Nat} {ad1:Option Addr} {cap2:Nat} (hS:St w0 (fz w0 μ::blk cb0 138 #[sv ad1 p0.b cap2]::arrT 5 1 (fK .u8) ad1 p0.b.length cap2 p0.b::T_) w1):Ba Tryz.prog 161 #[pb cb0,.string p1] w1 (fun e w=>∃(ν_:Frz) (a3:Option Addr) (a4:Nat),μ.ext w0.heap.size ν_∧Ax w0 ν_∧e=(.tuple #[])∧St w0 (fz w0 ν_::blk cb0 138 #[sv a3 res.b a4]::arrT 5 1 (fK .u8) a3 res.b.length a4 res.b::T_) w):=by
 rw [E7] at h
 have hext:=Frz.ext_refl w0.heap.size μ
 refine feW Tryz.func161 18 [(0,pb cb0),(1,.string p1)] hS fun a w hF hS=>?_
 refine esr<|qn 3 3 [(4,pb cb0),(6,iv ((p1.size:Nat):Int))] hF fun a hF=>?_
 refine SK.wi (qL 3 69 1 [((p1.size:Nat):Int)] (fun b3=>[(7,sb b3 1)]) H9 hF hS fun b3 w a hF hS=>?_)
 obtain ⟨ν4,hx5,hlow,hS,hz6⟩:=hS.freeze (i:=1) (j:=0) rfl rfl (by decide) hlow
 replace hext:=hext.t hx5
 have hA7:=ArrM.of_arr hz6
 obtain ⟨y8,hy8,h⟩:=A0 h
 refine SK.wi (qR (fun a9=>[]) hF (As F _ _ _ hy8 ν4 w0 w _ hlow hA7 hS) ?_)
 rintro a9 w a ⟨ν9,a6,a7,a5,hlow,rfl,hS⟩ hF
 replace hext:=hext.t a5
 replace hA7:=hA7.mono a5.1
 refine wfn rfl ?_
 refine WI.region<|ro 6 6 [(9,pb cb0),(13,sv a6 y8.b a7),(14,.string p1)] hF (oL 22 1 0 hS.i rfl rfl<|A1) fun a hF=>?_
 obtain ⟨a2,a8,h⟩:=A0 h
 refine SK.wi (A5q (t:=22) (xt:=9) (ty:=22) (bytes:=1) (l:=y8.b) (fun a0 a1=>[(9,pb cb0),(15,sv a0 a2 a1)]) 2 hF hS rfl kr ⟨kr⟩ kr kr a8 (fun _ _=>⟨kr⟩) fun a0 a1 w a hF hS=>?_)
 refine rn 2 9 [(15,sv a0 a2 a1),(17,pb cb0)] hF fun a hF=>?_
 refine SK.wi (qs 22 1 0 (sv a0 a2 a1) hF hS rfl fun w a hF hS=>?_)
 refine WI.fin rfl ?_
 refine Jr hF rfl ?_
 obtain rfl:=Ae h
 replace hS:=hS
 exact ⟨_,rfl,ν9,a0,a1,hext,hlow,rfl,hS⟩
theorem Gr (F:Nat) (p0:volume_writer) (p1:(List Int)) (res:volume_writer) (h:D2 F p0 p1=some res) (μ:Frz) (w0 w1:World) (T_:List Res) (hlow:Ax w0 μ) {cb0:Nat} {ad1:Option Addr} {cap2:Nat} {ad3:Option Addr} {cap4:Nat} (hA5:ArrM μ 1 fI ad3 cap4 p1) (hS:St w0 (fz w0 μ::blk cb0 138 #[sv ad1 p0.b cap2]::arrT 5 1 (fK .u8) ad1 p0.b.length cap2 p0.b::T_) w1):Ba Tryz.prog 168 #[pb cb0,sv ad3 p1 cap4] w1 (fun e w=>∃(ν_:Frz) (aF:Option Addr) (aI:Nat),μ.ext w0.heap.size ν_∧Ax w0 ν_∧e=(.tuple #[])∧St w0 (fz w0 ν_::blk cb0 138 #[sv aF res.b aI]::arrT 5 1 (fK .u8) aF res.b.length aI res.b::T_) w):=by
 rw [D2] at h
 have hext:=Frz.ext_refl w0.heap.size μ
 refine feW Tryz.func168 26 [(0,pb cb0),(1,sv ad3 p1 cap4)] hS fun a w hF hS=>?_
 refine qnB [(6,sv ad3 p1 cap4),(7,iv (ln p1)),(8,iv 0)] hF fun a hF=>?_
 refine wpIn_block ?_
 have aJ:=Frz.le_refl μ
 refine Ck (fun n_ a w=>∃(a3:(List Int)) (a2:Int) (ν130:Frz) (a7:Option Addr) (a9:Nat),Fr 26 [] [(0,pb cb0),(6,sv ad3 p1 cap4),(7,iv (ln p1)),(8,iv a2)] a∧St w0 (arrT 5 1 (fK .u8) a7 a3.length a9 a3::fz w0 ν130::blk cb0 138 #[sv a7 a3 a9]::T_) w∧(μ.le ν130)∧(μ.ext w0.heap.size ν130)∧(Ax w0 ν130)∧Bs F p1 n_ a3 a2=some res) F ⟨p0.b,0,μ,ad1,cap2,hF.sub kr,hS.s2,aJ,hext,hlow,h⟩ ?_
 clear aJ
 rintro nk1 a w ⟨a3,a2,ν130,a7,a9,hF,hS,a0,hext,hlow,h⟩
 rcases nk1 with _|nk1
 ·cases (show (none:Option volume_writer)=some res from h)
 replace hA5:=hA5.mono a0
 obtain ⟨k1,hk1⟩:∃k,k=Bs F p1 nk1:=⟨_,rfl⟩
 replace h:F4 F p1 k1 a3 a2=some res:=by rw [hk1];exact h
 rw [F4] at h
 refine qnB [(9,.bool (decide (a2<(ln p1))))] hF fun a hF=>?_
 refine Am<|A8 hF h (fun hc h=>?_) fun hc h=>?_
 ·refine wK ?_
  have a1:=Frz.le_refl ν130
  refine Dx (fun a w=>∃(a4:(List Int)) (ν163:Frz) (a8:Option Addr) (aA:Nat),Fr 26 [] [(0,pb cb0),(6,sv ad3 p1 cap4),(7,iv (ln p1)),(8,iv a2)] a∧St w0 (arrT 5 1 (fK .u8) a8 a4.length aA a4::fz w0 ν163::blk cb0 138 #[sv a8 a4 aA]::T_) w∧(ν130.le ν163)∧(μ.ext w0.heap.size ν163)∧(Ax w0 ν163)∧Cx a2 k1 a4=some res) ?_ ?_
  ·skip
   refine wpIn_block<|esr ?_
   obtain ⟨aM,aL,h⟩:=A0 h
   refine qo 3 3 [(5,iv aM)] hF (oI 69 (hA5 _ (hS.frz (i:=1) rfl hlow)) aL<|oE 3 0 H9 (fun _ hd=>(hA5 _ ((hS.at_ hd).frz (i:=1) rfl hlow))) aL rfl<|A1) fun a hF=>wfn rfl ?_
   refine qnB [(13,.bool (decide (aM<0)))] hF fun a hF=>?_
   refine A8 hF h (fun hc h=>?_) fun hc h=>?_
   ·refine WI.region ?_
    obtain ⟨b6,aV,h⟩:=A0 h
    obtain ⟨aO,aW,h⟩:=A0 h
    refine qo 4 4 [(14,pb cb0),(17,iv aO)] hF (oM 3 aV<|oS 3 aW<|A1) fun a hF=>?_
    refine SK.wi (qL 3 69 1 [aO] (fun aG=>[(18,sb aG 1)]) H9 hF hS fun aG w a hF hS=>?_)
    obtain ⟨ν174,aB,hlow,hS,b0⟩:=hS.freeze (i:=2) (j:=0) rfl rfl (by decide) hlow
    replace hA5:=hA5.mono aB.1
    replace a0:=a0.t aB.1
    replace a1:=a1.t aB.1
    replace hext:=hext.t aB
    have aD:=ArrM.of_arr b0
    obtain ⟨b4,aY,h⟩:=A0 h
    replace hS:=hS.s2.s2
    refine SK.wi (qR (fun b2=>[]) hF (As F _ _ _ aY ν174 w0 w _ hlow aD hS) ?_)
    rintro b2 w a ⟨ν179,aQ,aS,a5,hlow,rfl,hS⟩ hF
    replace hext:=hext.t a5
    replace hA5:=hA5.mono a5.1
    replace aD:=aD.mono a5.1
    replace a0:=a0.t a5.1
    replace a1:=a1.t a5.1
    refine WI.fin rfl (A9<|A3<|?_)
    exact ⟨b4.b,ν179,aQ,aS,hF.sub kr,hS.s2,a1,hext,hlow,h⟩
   ·refine WI.region ?_
    obtain ⟨aP,aX,h⟩:=A0 h
    refine qo 3 3 [(20,pb cb0),(22,iv aP)] hF (oM 3 aX<|A1) fun a hF=>?_
    refine SK.wi (qL 3 69 1 [aP] (fun aH=>[(23,sb aH 1)]) H9 hF hS fun aH w a hF hS=>?_)
    obtain ⟨ν186,aC,hlow,hS,b1⟩:=hS.freeze (i:=2) (j:=0) rfl rfl (by decide) hlow
    replace hA5:=hA5.mono aC.1
    replace a0:=a0.t aC.1
    replace a1:=a1.t aC.1
    replace hext:=hext.t aC
    have aE:=ArrM.of_arr b1
    obtain ⟨b5,aZ,h⟩:=A0 h
    replace hS:=hS.s2.s2
    refine SK.wi (qR (fun b3=>[]) hF (As F _ _ _ aZ ν186 w0 w _ hlow aE hS) ?_)
    rintro b3 w a ⟨ν191,aR,aT,a6,hlow,rfl,hS⟩ hF
    replace hext:=hext.t a6
    replace hA5:=hA5.mono a6.1
    replace aE:=aE.mono a6.1
    replace a0:=a0.t a6.1
    replace a1:=a1.t a6.1
    refine WI.fin rfl (A9<|A3<|?_)
    exact ⟨b5.b,ν191,aR,aT,hF.sub kr,hS.s2,a1,hext,hlow,h⟩
  clear a1
  rintro a w ⟨a4,ν163,a8,aA,hF,hS,aK,hext,hlow,h⟩
  replace hA5:=hA5.mono aK
  replace a0:=a0.t aK
  rw [Cx] at h
  refine WI.region ?_
  obtain ⟨aN,aU,h⟩:=A0 h
  refine ro 2 2 [(0,pb cb0),(6,sv ad3 p1 cap4),(7,iv (ln p1)),(8,iv aN)] hF (oA 3 aU<|A1) fun a hF=>wfn rfl ?_
  rw [hk1] at h
  exact ⟨nk1,Nat.lt_succ_self _,a4,aN,ν163,a8,aA,hF.sub kr,hS,a0,hext,hlow,h⟩
 ·refine wpIn_exit (A5<|A5<|Ar<|?_)
  refine Jr hF rfl ?_
  obtain rfl:=Ae h
  replace hS:=hS.s2.s2
  exact ⟨_,rfl,ν130,a7,a9,hext,hlow,rfl,hS⟩
theorem Np (F:Nat) (p0:api_Site) (res:Int) (h:F1 F p0=some res) (μ:Frz) (w0:World) (hm:FrzAt μ w0):Calls Tryz.prog 79 #[p0.ag] w0 (fun e w=>e=.returned (iv res)∧Ext w0 w):=by
 obtain ⟨hlow,hS⟩:=hm.init
 have hext:=Frz.ext_refl w0.heap.size μ
 rw [F1] at h
 refine feW Tryz.func79 47 [(0,p0.ag)] hS fun a w hF hS=>?_
 refine esr<|SK.wi (qBa 38 p0.ar (fun b1=>[(1,pb b1)]) hF hS fun b1 w a hF hS=>?_)
 refine qn 1 2 [] hF fun a hF=>wfn rfl ?_
 refine Am<|esr ?_
 obtain ⟨y2,hy2,h⟩:=A0 h
 refine qx 4 4 [(6,.bool (!y2))] hF (oL 9 0 0 hS.e rfl rfl<|oC (fun w2 hd=>S3 F p0.Name _ hy2 _ w2 (A4 w2))<|A1) fun a w hF hx=>?_
 replace hS:=hS.later hx
 refine wfn rfl ?_
 refine A8 hF h (fun hc h=>?_) fun hc h=>?_
 ·refine rnB [(2,iv 10)] hF fun a hF=>?_
  refine wpIn_ret (A2<|A7 [.tmp 2] [_] hF rfl ⟨rfl,trivial⟩ ?_)
  obtain rfl:=Ae h
  exact ⟨rfl,hS.ext⟩
 ·refine wK<|Am<|esr<|rX 40 40 [(46,.bool (bif (bif (bif (bif (bif (bif (!(Ag p0.X (-1048576) 1048576)) then true else (!(Ag p0.Y (-1048576) 1048576))) then true else (!(Ag p0.Z 0 20000))) then true else (!(Ag p0.Rose 1 90))) then true else (!(Ag p0.Gates 1 200))) then true else (!(Ag p0.Step 50 2000))) then true else (!(Ag p0.Width 0 8))))] hF (oL 3 0 1 hS.e rfl rfl<|oC (fun w2 hd=>Cn p0.X (-1048576) 1048576 _ rfl _ w2 (A4 w2))<|oGs [⟨11,false,(!(Ag p0.X (-1048576) 1048576))⟩] (oL 3 0 2 hS.e rfl rfl<|oC (fun w2 hd=>Cn p0.Y (-1048576) 1048576 _ rfl _ w2 (A4 w2))<|A1)<|oGs [⟨17,false,(bif (!(Ag p0.X (-1048576) 1048576)) then true else (!(Ag p0.Y (-1048576) 1048576)))⟩] (oL 3 0 3 hS.e rfl rfl<|oC (fun w2 hd=>Cn p0.Z 0 20000 _ rfl _ w2 (A4 w2))<|A1)<|oGs [⟨23,false,(bif (bif (!(Ag p0.X (-1048576) 1048576)) then true else (!(Ag p0.Y (-1048576) 1048576))) then true else (!(Ag p0.Z 0 20000)))⟩] (oL 3 0 4 hS.e rfl rfl<|oC (fun w2 hd=>Cn p0.Rose 1 90 _ rfl _ w2 (A4 w2))<|A1)<|oGs [⟨29,false,(bif (bif (bif (!(Ag p0.X (-1048576) 1048576)) then true else (!(Ag p0.Y (-1048576) 1048576))) then true else (!(Ag p0.Z 0 20000))) then true else (!(Ag p0.Rose 1 90)))⟩] (oL 3 0 5 hS.e rfl rfl<|oC (fun w2 hd=>Cn p0.Gates 1 200 _ rfl _ w2 (A4 w2))<|A1)<|oGs [⟨35,false,(bif (bif (bif (bif (!(Ag p0.X (-1048576) 1048576)) then true else (!(Ag p0.Y (-1048576) 1048576))) then true else (!(Ag p0.Z 0 20000))) then true else (!(Ag p0.Rose 1 90))) then true else (!(Ag p0.Gates 1 200)))⟩] (oL 3 0 6 hS.e rfl rfl<|oC (fun w2 hd=>Cn p0.Step 50 2000 _ rfl _ w2 (A4 w2))<|A1)<|oGs [⟨41,false,(bif (bif (bif (bif (bif (!(Ag p0.X (-1048576) 1048576)) then true else (!(Ag p0.Y (-1048576) 1048576))) then true else (!(Ag p0.Z 0 20000))) then true else (!(Ag p0.Rose 1 90))) then true else (!(Ag p0.Gates 1 200))) then true else (!(Ag p0.Step 50 2000)))⟩] (oL 3 0 7 hS.e rfl rfl<|oC (fun w2 hd=>Cn p0.Width 0 8 _ rfl _ w2 (A4 w2))<|A1)<|A1) fun a w hF hx=>?_
  replace hS:=hS.later hx
  refine wfn rfl ?_
  refine A8 hF h (fun hc h=>?_) fun hc h=>?_
  ·refine rnB [(2,iv 3)] hF fun a hF=>?_
   refine wpIn_ret (A2<|A7 [.tmp 2] [_] hF rfl ⟨rfl,trivial⟩ ?_)
   obtain rfl:=Ae h
   exact ⟨rfl,hS.ext⟩
  ·refine wK<|rnB [(2,iv 0)] hF fun a hF=>?_
   refine wpIn_ret (A7 [.tmp 2] [_] hF rfl ⟨rfl,trivial⟩ ?_)
   obtain rfl:=Ae h
   exact ⟨rfl,hS.ext⟩
theorem Nq (F:Nat) (p0:api_Span) (res:Bool) (h:Jv F p0=some res) (μ:Frz) (w0:World) (hm:FrzAt μ w0):Calls Tryz.prog 110 #[.agg #[iv p0.Lo,iv p0.Hi]] w0 (fun e w=>e=.returned (.bool res)∧Ext w0 w):=by
 obtain ⟨hlow,hS⟩:=hm.init
 have hext:=Frz.ext_refl w0.heap.size μ
 rw [Jv] at h
 refine feW Tryz.func110 17 [(0,.agg #[iv p0.Lo,iv p0.Hi])] hS fun a w hF hS=>?_
 refine esr<|SK.wi (qBa 146 #[iv p0.Lo,iv p0.Hi] (fun b1=>[(1,pb b1)]) hF hS fun b1 w a hF hS=>?_)
 refine qn 1 2 [] hF fun a hF=>wfn rfl ?_
 refine esr ?_
 obtain ⟨x2,hx2,h⟩:=A0 h
 obtain ⟨x3,hx3,h⟩:=A0 h
 refine rX 15 15 [(2,.bool (bif (Ag p0.Lo (-32768) 32767) then (Ag p0.Hi p0.Lo x3) else false))] hF (oL 3 0 0 hS.e rfl rfl<|oC (fun w2 hd=>Cn p0.Lo (-32768) 32767 _ rfl _ w2 (A4 w2))<|oGs [⟨6,true,(Ag p0.Lo (-32768) 32767)⟩] (oL 3 0 1 hS.e rfl rfl<|oL 3 0 0 hS.e rfl rfl<|oL 3 0 0 hS.e rfl rfl<|A1)<|oX (.run [⟨6,true,(Ag p0.Lo (-32768) 32767)⟩] (binOp .add 3 (iv p0.Lo) (iv 65536)) (iv x2)) (Ve (fun hk=>Bt hx2 hk))<|oX (.run [⟨6,true,(Ag p0.Lo (-32768) 32767)⟩] (binOp .sub 3 (iv x2) (iv 1)) (iv x3)) (Sh (fun hk=>Bt hx3 hk))<|oGs [⟨6,true,(Ag p0.Lo (-32768) 32767)⟩] (oC (fun w2 hd=>Cn p0.Hi p0.Lo x3 _ rfl _ w2 (A4 w2))<|A1)<|A1) fun a w hF hx=>?_
 replace hS:=hS.later hx
 refine wfn rfl ?_
 refine wpIn_ret (A7 [.tmp 2] [_] hF rfl ⟨rfl,trivial⟩ ?_)
 obtain rfl:=Ae h
 exact ⟨rfl,hS.ext⟩
theorem No (p0:api_Grid) (res:Int) (h:C6 p0=res) (μ:Frz) (w0:World) (hm:FrzAt μ w0):Calls Tryz.prog 102 #[p0.ag] w0 (fun e w=>e=.returned (iv res)∧Ext w0 w):=by
 obtain ⟨hlow,hS⟩:=hm.init
 have hext:=Frz.ext_refl w0.heap.size μ
 rw [C6] at h
 refine feW Tryz.func102 31 [(0,p0.ag)] hS fun a w hF hS=>?_
 refine esr<|SK.wi (qBa 43 p0.ar (fun b1=>[(1,pb b1)]) hF hS fun b1 w a hF hS=>?_)
 refine qn 1 2 [] hF fun a hF=>wfn rfl ?_
 refine Am<|esr<|rX 28 28 [(30,.bool (bif (bif (bif (bif (!(Ag p0.X (-1048576) 1048576)) then true else (!(Ag p0.Y (-1048576) 1048576))) then true else (!(Ag p0.Size 1 10000))) then true else (!(Ag p0.Wide 1 64))) then true else (!(Ag p0.High 1 64))))] hF (oL 3 0 0 hS.e rfl rfl<|oC (fun w2 hd=>Cn p0.X (-1048576) 1048576 _ rfl _ w2 (A4 w2))<|oGs [⟨7,false,(!(Ag p0.X (-1048576) 1048576))⟩] (oL 3 0 1 hS.e rfl rfl<|oC (fun w2 hd=>Cn p0.Y (-1048576) 1048576 _ rfl _ w2 (A4 w2))<|A1)<|oGs [⟨13,false,(bif (!(Ag p0.X (-1048576) 1048576)) then true else (!(Ag p0.Y (-1048576) 1048576)))⟩] (oL 3 0 2 hS.e rfl rfl<|oC (fun w2 hd=>Cn p0.Size 1 10000 _ rfl _ w2 (A4 w2))<|A1)<|oGs [⟨19,false,(bif (bif (!(Ag p0.X (-1048576) 1048576)) then true else (!(Ag p0.Y (-1048576) 1048576))) then true else (!(Ag p0.Size 1 10000)))⟩] (oL 3 0 3 hS.e rfl rfl<|oC (fun w2 hd=>Cn p0.Wide 1 64 _ rfl _ w2 (A4 w2))<|A1)<|oGs [⟨25,false,(bif (bif (bif (!(Ag p0.X (-1048576) 1048576)) then true else (!(Ag p0.Y (-1048576) 1048576))) then true else (!(Ag p0.Size 1 10000))) then true else (!(Ag p0.Wide 1 64)))⟩] (oL 3 0 4 hS.e rfl rfl<|oC (fun w2 hd=>Cn p0.High 1 64 _ rfl _ w2 (A4 w2))<|A1)<|A1) fun a w hF hx=>?_
 replace hS:=hS.later hx
 refine wfn rfl ?_
 refine A8 hF h (fun hc h=>?_) fun hc h=>?_
 ·refine rnB [(2,iv 3)] hF fun a hF=>?_
  refine wpIn_ret (A2<|A7 [.tmp 2] [_] hF rfl ⟨rfl,trivial⟩ ?_)
  subst h
  exact ⟨rfl,hS.ext⟩
 ·refine wK<|rnB [(2,iv 0)] hF fun a hF=>?_
  refine wpIn_ret (A7 [.tmp 2] [_] hF rfl ⟨rfl,trivial⟩ ?_)
  subst h
  exact ⟨rfl,hS.ext⟩
theorem Jt (F:Nat) (p0:ref12_reader) (res:(ByteArray×ref12_reader)) (h:Dl F p0=some res) (μ:Frz) (w0 w1:World) (T_:List Res) (hlow:Ax w0 μ) {cb0:Nat} {ad1:Option Addr} {cap2:Nat} (hA3:ArrM μ 1 (fK .u8) ad1 cap2 p0.b) (hS:St w0 (fz w0 μ::blk cb0 135 #[sv ad1 p0.b cap2,.bool p0.bad]::T_) w1):Ba Tryz.prog 99 #[pb cb0] w1 (fun e w=>∃(ν_:Frz) (a3:Option Addr) (a4:Nat),μ.ext w0.heap.size ν_∧Ax w0 ν_∧e=(.string res.1)∧(ArrM ν_ 1 (fK .u8) a3 a4 res.2.b)∧St w0 (fz w0 ν_::blk cb0 135 #[sv a3 res.2.b a4,.bool res.2.bad]::T_) w):=by
 rw [Dl] at h
 have hext:=Frz.ext_refl w0.heap.size μ
 refine feW Tryz.func99 34 [(0,pb cb0)] hS fun a w hF hS=>?_
 refine qnB [] hF fun a hF=>?_
 refine esr<|qn 1 1 [(5,pb cb0)] hF fun a hF=>?_
 obtain ⟨y4,hy4,h⟩:=A0 h
 refine SK.wi (qR (fun v7=>[(6,v7)]) hF (Aj F _ _ hy4 μ w0 w _ hlow hA3 hS) ?_)
 rintro v7 w a ⟨ν5,ad8,cap9,hx6,hlow,rfl,a1,hS⟩ hF
 replace hext:=hext.t hx6
 replace hA3:=hA3.mono hx6.1
 refine qn 1 3 [(3,iv y4.1)] hF fun a hF=>wfn rfl ?_
 refine Am<|qoB [(13,.bool (decide (y4.1>(ln y4.2.b))))] hF (oL 22 1 0 hS.i rfl rfl<|A1) fun a hF=>?_
 refine A8 hF h (fun hc h=>?_) fun hc h=>?_
 ·refine esr<|rn 3 3 [(16,.pointer (some ⟨cb0,1,none⟩))] hF fun a hF=>?_
  refine SK.wi (qs 4 1 1 (.bool true) hF hS rfl fun w a hF hS=>wfn rfl ?_)
  refine rnB [(2,.string (⟨#[]⟩:ByteArray))] hF fun a hF=>?_
  refine wpIn_ret (A2<|A7 [.tmp 2] [_] hF rfl ⟨rfl,trivial⟩ ?_)
  obtain rfl:=Ae h
  replace hS:=hS
  exact ⟨_,rfl,ν5,ad8,cap9,hext,hlow,rfl,a1,hS⟩
 ·refine wK<|esr ?_
  obtain ⟨a0,a5,h⟩:=A0 h
  have a7:ArrM ν5 1 (fK .u8) (Al ad8 cap9 (0:Int).toNat 1) (cap9-(0:Int).toNat) a0:=fun w_ hw_=>(a1 w_ hw_).cutD (B8 .u8) a5
  refine qo 8 8 [(4,.string (bst a0))] hF (oL 22 1 0 hS.i rfl rfl<|oX (.run [] (Instr.sliceAt 22 (sv ad8 y4.2.b cap9) none (some (iv y4.1)) none) (.slice (Al ad8 cap9 (0:Int).toNat 1) a0.length (cap9-(0:Int).toNat))) (Nl kr (a1 _ (hS.frz (i:=0) rfl hlow)) (fun _=>a5))<|oX (.run [] (convert 22 9 (.slice (Al ad8 cap9 (0:Int).toNat 1) a0.length (cap9-(0:Int).toNat))) (.string (bst a0))) (Xq kr kr (fun _ hd=>(a7 _ ((hS.at_ hd).frz (i:=0) rfl hlow))))<|A1) fun a hF=>wfn rfl ?_
  refine esr ?_
  obtain ⟨a2,a6,h⟩:=A0 h
  have a8:ArrM ν5 1 (fK .u8) (Al ad8 cap9 y4.1.toNat 1) (cap9-y4.1.toNat) a2:=fun w_ hw_=>(a1 w_ hw_).cutD (B8 .u8) a6
  refine qo 9 9 [(30,.slice (Al ad8 cap9 y4.1.toNat 1) a2.length (cap9-y4.1.toNat)),(32,pb cb0)] hF (oL 22 1 0 hS.i rfl rfl<|oX (.run [] (Instr.sliceAt 22 (sv ad8 y4.2.b cap9) (some (iv y4.1)) none none) (.slice (Al ad8 cap9 y4.1.toNat 1) a2.length (cap9-y4.1.toNat))) (Lv kr (a1 _ (hS.frz (i:=0) rfl hlow)) (fun _=>a6))<|A1) fun a hF=>?_
  refine SK.wi (qs 22 1 0 (.slice (Al ad8 cap9 y4.1.toNat 1) a2.length (cap9-y4.1.toNat)) hF hS rfl fun w a hF hS=>wfn rfl ?_)
  refine rnB [(2,.string (bst a0))] hF fun a hF=>?_
  refine wpIn_ret (A7 [.tmp 2] [_] hF rfl ⟨rfl,trivial⟩ ?_)
  obtain rfl:=Ae h
  replace hS:=hS
  exact ⟨_,rfl,ν5,(Al ad8 cap9 y4.1.toNat 1),(cap9-y4.1.toNat),hext,hlow,rfl,a8,hS⟩
theorem Eb (F:Nat) (p0:ref12_reader) (res:(Int×ref12_reader)) (h:B9 F p0=some res) (μ:Frz) (w0 w1:World) (T_:List Res) (hlow:Ax w0 μ) {cb0:Nat} {ad1:Option Addr} {cap2:Nat} (hA3:ArrM μ 1 (fK .u8) ad1 cap2 p0.b) (hS:St w0 (fz w0 μ::blk cb0 135 #[sv ad1 p0.b cap2,.bool p0.bad]::T_) w1):Ba Tryz.prog 100 #[pb cb0] w1 (fun e w=>∃(ν_:Frz) (a0:Option Addr) (a1:Nat),μ.ext w0.heap.size ν_∧Ax w0 ν_∧e=(iv res.1)∧(ArrM ν_ 1 (fK .u8) a0 a1 res.2.b)∧St w0 (fz w0 ν_::blk cb0 135 #[sv a0 res.2.b a1,.bool res.2.bad]::T_) w):=by
 rw [B9] at h
 have hext:=Frz.ext_refl w0.heap.size μ
 refine feW Tryz.func100 15 [(0,pb cb0)] hS fun a w hF hS=>?_
 refine qnB [] hF fun a hF=>?_
 refine esr<|rn 1 1 [(4,pb cb0)] hF fun a hF=>?_
 obtain ⟨y4,hy4,h⟩:=A0 h
 refine SK.wi (rR (fun v7=>[(5,v7)]) hF (Aj F _ _ hy4 μ w0 w _ hlow hA3 hS) ?_)
 rintro v7 w a ⟨ν5,ad8,cap9,hx6,hlow,rfl,a2,hS⟩ hF
 replace hext:=hext.t hx6
 replace hA3:=hA3.mono hx6.1
 refine rn 1 3 [(3,iv y4.1)] hF fun a hF=>wfn rfl ?_
 refine Am<|esr ?_
 obtain ⟨a7,a3,h⟩:=A0 h
 refine qo 3 3 [(8,.bool (a7==1))] hF (oR 3 a3<|A1) fun a hF=>wfn rfl ?_
 refine A8 hF h (fun hc h=>?_) fun hc h=>?_
 ·refine esr ?_
  obtain ⟨aA,a4,h⟩:=A0 h
  obtain ⟨a8,a5,h⟩:=A0 h
  refine ro 5 5 [(2,iv a8)] hF (oA 3 a4<|oQ 3 a5<|A1) fun a hF=>wfn rfl ?_
  refine wpIn_ret (A2<|A7 [.tmp 2] [_] hF rfl ⟨rfl,trivial⟩ ?_)
  obtain rfl:=Ae h
  replace hS:=hS
  exact ⟨_,rfl,ν5,ad8,cap9,hext,hlow,rfl,a2,hS⟩
 ·refine wK<|esr ?_
  obtain ⟨a9,a6,h⟩:=A0 h
  refine ro 3 3 [(2,iv a9)] hF (oQ 3 a6<|A1) fun a hF=>wfn rfl ?_
  refine wpIn_ret (A7 [.tmp 2] [_] hF rfl ⟨rfl,trivial⟩ ?_)
  obtain rfl:=Ae h
  replace hS:=hS
  exact ⟨_,rfl,ν5,ad8,cap9,hext,hlow,rfl,a2,hS⟩
theorem Mi (F:Nat) (p0:ref12_reader) (p1:Int) (res:(Int×ref12_reader)) (h:Er F p0 p1=some res) (μ:Frz) (w0 w1:World) (T_:List Res) (hlow:Ax w0 μ) {cb0:Nat} {ad1:Option Addr} {cap2:Nat} (hA3:ArrM μ 1 (fK .u8) ad1 cap2 p0.b) (hS:St w0 (fz w0 μ::blk cb0 135 #[sv ad1 p0.b cap2,.bool p0.bad]::T_) w1):Ba Tryz.prog 123 #[pb cb0,iv p1] w1 (fun e w=>∃(ν_:Frz) (a0:Option Addr) (a1:Nat),μ.ext w0.heap.size ν_∧Ax w0 ν_∧e=(iv res.1)∧(ArrM ν_ 1 (fK .u8) a0 a1 res.2.b)∧St w0 (fz w0 ν_::blk cb0 135 #[sv a0 res.2.b a1,.bool res.2.bad]::T_) w):=by
 rw [Er] at h
 have hext:=Frz.ext_refl w0.heap.size μ
 refine feW Tryz.func123 15 [(0,pb cb0),(1,iv p1)] hS fun a w hF hS=>?_
 refine qnB [] hF fun a hF=>?_
 refine esr<|qn 1 1 [(6,pb cb0)] hF fun a hF=>?_
 obtain ⟨y4,hy4,h⟩:=A0 h
 refine SK.wi (qR (fun v7=>[(7,v7)]) hF (Aj F _ _ hy4 μ w0 w _ hlow hA3 hS) ?_)
 rintro v7 w a ⟨ν5,ad8,cap9,hx6,hlow,rfl,a2,hS⟩ hF
 replace hext:=hext.t hx6
 replace hA3:=hA3.mono hx6.1
 refine qn 1 3 [(5,iv y4.1)] hF fun a hF=>wfn rfl ?_
 refine Am<|qnB [(10,.bool (decide (y4.1>p1)))] hF fun a hF=>?_
 refine A8 hF h (fun hc h=>?_) fun hc h=>?_
 ·refine esr<|rn 3 3 [(13,.pointer (some ⟨cb0,1,none⟩))] hF fun a hF=>?_
  refine SK.wi (qs 4 1 1 (.bool true) hF hS rfl fun w a hF hS=>wfn rfl ?_)
  refine rnB [(4,iv 0)] hF fun a hF=>?_
  refine wpIn_ret (A2<|A7 [.tmp 4] [_] hF rfl ⟨rfl,trivial⟩ ?_)
  obtain rfl:=Ae h
  replace hS:=hS
  exact ⟨_,rfl,ν5,ad8,cap9,hext,hlow,rfl,a2,hS⟩
 ·refine wK<|rnB [(4,iv y4.1)] hF fun a hF=>?_
  refine wpIn_ret (A7 [.tmp 4] [_] hF rfl ⟨rfl,trivial⟩ ?_)
  obtain rfl:=Ae h
  replace hS:=hS
  exact ⟨_,rfl,ν5,ad8,cap9,hext,hlow,rfl,a2,hS⟩
theorem Qh (F:Nat) (p0:ByteArray) (res:(List Int)) (h:Jk F p0=some res) (μ:Frz) (w0:World) (hm:FrzAt μ w0):Ba Tryz.prog 105 #[.string p0] w0 (fun e w=>∃zad0 zcap0,e=(sv zad0 res zcap0)∧St w0 [arr 5 1 (fK .u8) zad0 res.length zcap0 res] w):=by
 obtain ⟨hlow,hS⟩:=hm.init
 have hext:=Frz.ext_refl w0.heap.size μ
 rw [Jk] at h
 refine feW Tryz.func105 9 [(0,.string p0)] hS fun a w hF hS=>?_
 refine qnB [] hF fun a hF=>?_
 refine esr<|qn 2 2 [(4,iv ((p0.size:Nat):Int))] hF fun a hF=>?_
 obtain ⟨y2,hy2,h⟩:=A0 h
 refine SK.wi (qR (fun v1=>[(5,v1)]) hF (At F _ _ hy2 (B0 w) w (A4 w)) ?_)
 rintro v1 w a ⟨ad3,cap4,rfl,hQ⟩ hF
 replace hS:=hS.madeL hQ
 refine rn 1 4 [(5,sv ad3 y2 cap4),(6,.string p0)] hF fun a hF=>?_
 obtain ⟨l5,hl5,h⟩:=A0 h
 refine SK.wi (A12 (src:=9) (dst:=22) 5 (fun ad6 cap7=>[(5,sv ad3 y2 cap4),(7,sv ad6 l5 cap7)]) hF hS kr ⟨kr⟩ kr kr kr hl5 (fun _ _=>⟨kr⟩) fun ad6 cap7 w a hF hS=>?_)
 obtain ⟨l8,hl8,h⟩:=A0 h
 refine SK.wi (rP 22 22 1 (fun ad9 a0=>[(8,sv ad9 l8 a0)]) hF hS (hS.arrT_ (i:=0) rfl) hl8 rfl fun ad9 a0 w a hF hS=>?_)
 refine rn 1 7 [(2,sv ad9 l8 a0)] hF fun a hF=>wfn rfl ?_
 refine wpIn_ret (A7 [.tmp 2] [_] hF rfl ⟨rfl,trivial⟩ ?_)
 obtain rfl:=Ae h
 exact ⟨_,rfl,_,_,rfl,St.pick [1] (by decide) hS⟩
theorem Ho (F:Nat) (p0:Int) (res:(List Int)) (h:Da F p0=some res) (μ:Frz) (w0:World) (hm:FrzAt μ w0):Ba Tryz.prog 106 #[iv p0] w0 (fun e w=>∃zad0 zcap0,e=(sv zad0 res zcap0)∧St w0 [arr 5 1 (fK .u8) zad0 res.length zcap0 res] w):=by
 obtain ⟨hlow,hS⟩:=hm.init
 have hext:=Frz.ext_refl w0.heap.size μ
 rw [Da] at h
 refine feW Tryz.func106 12 [(0,iv p0)] hS fun a w hF hS=>?_
 refine qnB [] hF fun a hF=>?_
 refine Am<|qnB [(4,.bool (decide (p0<0)))] hF fun a hF=>?_
 refine A8 hF h (fun hc h=>?_) fun hc h=>?_
 ·refine esr ?_
  obtain ⟨x1,hx1,h⟩:=A0 h
  obtain ⟨x2,hx2,h⟩:=A0 h
  refine ro 3 3 [(7,iv x2)] hF (oM 3 hx1<|oS 3 hx2<|A1) fun a hF=>?_
  obtain ⟨y4,hy4,h⟩:=A0 h
  refine SK.wi (rR (fun v3=>[(8,v3)]) hF (At F _ _ hy4 (B0 w) w (A4 w)) ?_)
  rintro v3 w a ⟨ad5,cap6,rfl,hQ⟩ hF
  replace hS:=hS.madeL hQ
  refine rn 1 5 [(2,sv ad5 y4 cap6)] hF fun a hF=>wfn rfl ?_
  refine wpIn_ret (A2<|A7 [.tmp 2] [_] hF rfl ⟨rfl,trivial⟩ ?_)
  obtain rfl:=Ae h
  exact ⟨_,rfl,_,_,rfl,St.pick [0] (by decide) hS⟩
 ·refine wK<|esr ?_
  obtain ⟨x7,hx7,h⟩:=A0 h
  refine ro 2 2 [(10,iv x7)] hF (oM 3 hx7<|A1) fun a hF=>?_
  obtain ⟨y9,hy9,h⟩:=A0 h
  refine SK.wi (rR (fun v8=>[(11,v8)]) hF (At F _ _ hy9 (B0 w) w (A4 w)) ?_)
  rintro v8 w a ⟨a0,a1,rfl,hQ⟩ hF
  replace hS:=hS.madeL hQ
  refine rn 1 4 [(2,sv a0 y9 a1)] hF fun a hF=>wfn rfl ?_
  refine wpIn_ret (A7 [.tmp 2] [_] hF rfl ⟨rfl,trivial⟩ ?_)
  obtain rfl:=Ae h
  exact ⟨_,rfl,_,_,rfl,St.pick [0] (by decide) hS⟩
end Go.Proofs.YtifbomimeodibaaGreat
