import Derived.Test.YtifbomimeodibaaGreatV4XD
import Derived.Test.YtifbomimeodibaaGreatProg
import Derived.Test.YtifbomimeodibaaGreatV4XW0
import Derived.Test.YtifbomimeodibaaGreatV4XW1
import Derived.Test.YtifbomimeodibaaGreatV4XW2
import Derived.Test.YtifbomimeodibaaGreatV4XW3
namespace Go.Proofs.YtifbomimeodibaaGreat
open Go Go.RowKit Go.Eng
set_option maxRecDepth 10000
set_option maxHeartbeats 4000000
set_option linter.unusedVariables false
set_option linter.unusedSimpArgs false
theorem Gd (F:Nat) (p0:volume_reader) (res:Except (Value×volume_reader) (ByteArray×volume_reader)) (h:Eo F p0=some res) (μ:Frz) (w0 w1:World) (T_:List Res) (hlow:B2 w0 μ) {cb0:Nat} {ad1:Option Addr} {cap2:Nat} (hA3:ArrM μ 1 (fK .u8) ad1 cap2 p0.b) (hS:St w0 (fz w0 μ::blk cb0 125 #[sv ad1 p0.b cap2]::T_) w1):Nc Tryz.prog 91 #[pb cb0] w1 res (fun r_ e w=>∃(ν_:Frz) (a5:Option Addr) (a7:Nat),μ.ext w0.heap.size ν_∧B2 w0 ν_∧e=(.string r_.1)∧(ArrM ν_ 1 (fK .u8) a5 a7 r_.2.b)∧St w0 (fz w0 ν_::blk cb0 125 #[sv a5 r_.2.b a7]::T_) w) (fun e_ w=>∃(ν_:Frz) (a6:Option Addr) (a8:Nat),μ.ext w0.heap.size ν_∧B2 w0 ν_∧(ArrM ν_ 1 (fK .u8) a6 a8 e_.b)∧St w0 (fz w0 ν_::blk cb0 125 #[sv a6 e_.b a8]::T_) w):=by
 rw [Eo] at h
 have hext:=Frz.ext_refl w0.heap.size μ
 refine feW Tryz.func91 32 [(0,pb cb0)] hS fun a w hF hS=>?_
 refine qnB [] hF fun a hF=>?_
 refine esr<|qn 1 1 [(5,pb cb0)] hF fun a hF=>?_
 obtain ⟨y4,hy4,h⟩:=A0 h
 refine D6 (fun v9=>[(0,pb cb0),(6,v9)]) hF kr ⟨kr⟩ (Af F _ _ hy4 μ w0 w _ hlow hA3 hS) (fun _=>⟨kr⟩) ?_ ?_
 ·rintro e6 w he_ ⟨ν13,aC,aD,aB,hlow,aE,hS⟩
  replace h:=Fe h he_
  replace hext:=hext.t aB
  replace hA3:=hA3.mono aB.1
  refine A5<|Au hF ?_
  obtain rfl:=Ai h
  replace hS:=hS
  exact .inr ⟨_,rfl,rfl,ν13,aC,aD,hext,hlow,aE,hS⟩
 rintro y5 v9 w a he_ ⟨ν7,a1,a0,hx8,hlow,rfl,a3,hS⟩ hF
 replace h:=Ff h he_
 replace hext:=hext.t hx8
 replace hA3:=hA3.mono hx8.1
 refine rn 1 3 [(0,pb cb0),(3,iv y5.1)] hF fun a hF=>wfn rfl ?_
 refine D4 (fun a w=>Fr 32 [] [(0,pb cb0),(3,iv y5.1)] a∧St w0 (fz w0 ν7::blk cb0 125 #[sv a1 y5.2.b a0]::T_) w∧Gc y5=some res) ?_ ?_
 ·skip
  refine qoB [(13,.bool (decide (y5.1>(ln y5.2.b))))] hF (oL 22 1 0 hS.i rfl rfl<|A3) fun a hF=>?_
  refine A8 hF h (fun hc h=>?_) fun hc h=>?_
  ·refine WI.region<|qn 1 1 [(14,.iface 128 (iv 7))] hF fun a hF=>?_
   refine Np (t:=128) (v:=iv 7) hF ⟨kr⟩ (A5<|Au hF ?_)
   obtain rfl:=Ai h
   replace hS:=hS
   exact .inr ⟨_,rfl,rfl,ν7,a1,a0,hext,hlow,a3,hS⟩
  ·refine wK ?_
   exact ⟨hF.sub kr,hS,h⟩
 rintro a w ⟨hF,hS,h⟩
 rw [Gc] at h
 refine esr ?_
 obtain ⟨a2,a9,h⟩:=A0 h
 have aF:ArrM ν7 1 (fK .u8) (Ar a1 a0 (0:Int).toNat 1) (a0-(0:Int).toNat) a2:=fun w_ hw_=>(a3 w_ hw_).cutD (Bs .u8) a9
 refine qo 8 8 [(4,.string (bst a2))] hF (oL 22 1 0 hS.i rfl rfl<|oX (.run [] (Instr.sliceAt 22 (sv a1 y5.2.b a0) none (some (iv y5.1)) none) (.slice (Ar a1 a0 (0:Int).toNat 1) a2.length (a0-(0:Int).toNat))) (Tk kr (a3 _ (hS.frz (i:=0) rfl hlow)) (fun _=>a9))<|oX (.run [] (convert 22 9 (.slice (Ar a1 a0 (0:Int).toNat 1) a2.length (a0-(0:Int).toNat))) (.string (bst a2))) (Yp kr kr (fun _ hd=>(aF _ ((hS.at_ hd).frz (i:=0) rfl hlow))))<|A3) fun a hF=>wfn rfl ?_
 refine esr ?_
 obtain ⟨a4,aA,h⟩:=A0 h
 have aG:ArrM ν7 1 (fK .u8) (Ar a1 a0 y5.1.toNat 1) (a0-y5.1.toNat) a4:=fun w_ hw_=>(a3 w_ hw_).cutD (Bs .u8) aA
 refine qo 9 9 [(28,.slice (Ar a1 a0 y5.1.toNat 1) a4.length (a0-y5.1.toNat)),(30,pb cb0)] hF (oL 22 1 0 hS.i rfl rfl<|oX (.run [] (Instr.sliceAt 22 (sv a1 y5.2.b a0) (some (iv y5.1)) none none) (.slice (Ar a1 a0 y5.1.toNat 1) a4.length (a0-y5.1.toNat))) (Mv kr (a3 _ (hS.frz (i:=0) rfl hlow)) (fun _=>aA))<|A3) fun a hF=>?_
 refine SK.wi (qs 22 1 0 (.slice (Ar a1 a0 y5.1.toNat 1) a4.length (a0-y5.1.toNat)) hF hS rfl fun w a hF hS=>wfn rfl ?_)
 refine rnB [(2,.string (bst a2))] hF fun a hF=>?_
 refine wpIn_ret (A9 [.tmp 2] [_] hF rfl ⟨rfl,trivial⟩ ?_)
 obtain rfl:=Ai h
 replace hS:=hS
 exact .inl ⟨_,_,rfl,rfl,ν7,(Ar a1 a0 y5.1.toNat 1),(a0-y5.1.toNat),hext,hlow,rfl,aG,hS⟩
theorem Cw (F:Nat) (p0:volume_reader) (res:Except (Value×volume_reader) (Int×volume_reader)) (h:C4 F p0=some res) (μ:Frz) (w0 w1:World) (T_:List Res) (hlow:B2 w0 μ) {cb0:Nat} {ad1:Option Addr} {cap2:Nat} (hA3:ArrM μ 1 (fK .u8) ad1 cap2 p0.b) (hS:St w0 (fz w0 μ::blk cb0 125 #[sv ad1 p0.b cap2]::T_) w1):Nc Tryz.prog 92 #[pb cb0] w1 res (fun r_ e w=>∃(ν_:Frz) (a1:Option Addr) (a4:Nat),μ.ext w0.heap.size ν_∧B2 w0 ν_∧e=(iv r_.1)∧(ArrM ν_ 1 (fK .u8) a1 a4 r_.2.b)∧St w0 (fz w0 ν_::blk cb0 125 #[sv a1 r_.2.b a4]::T_) w) (fun e_ w=>∃(ν_:Frz) (a2:Option Addr) (a5:Nat),μ.ext w0.heap.size ν_∧B2 w0 ν_∧(ArrM ν_ 1 (fK .u8) a2 a5 e_.b)∧St w0 (fz w0 ν_::blk cb0 125 #[sv a2 e_.b a5]::T_) w):=by
 rw [C4] at h
 have hext:=Frz.ext_refl w0.heap.size μ
 refine feW Tryz.func92 15 [(0,pb cb0)] hS fun a w hF hS=>?_
 refine qnB [] hF fun a hF=>?_
 refine esr<|rn 1 1 [(4,pb cb0)] hF fun a hF=>?_
 obtain ⟨y4,hy4,h⟩:=A0 h
 refine D6 (fun v9=>[(5,v9)]) hF kr ⟨kr⟩ (Af F _ _ hy4 μ w0 w _ hlow hA3 hS) (fun _=>⟨kr⟩) ?_ ?_
 ·rintro e6 w he_ ⟨ν13,a8,a9,a7,hlow,aA,hS⟩
  replace h:=Fe h he_
  replace hext:=hext.t a7
  replace hA3:=hA3.mono a7.1
  refine A5<|Au hF ?_
  obtain rfl:=Ai h
  replace hS:=hS
  exact .inr ⟨_,rfl,rfl,ν13,a8,a9,hext,hlow,aA,hS⟩
 rintro y5 v9 w a he_ ⟨ν7,a0,a3,hx8,hlow,rfl,a6,hS⟩ hF
 replace h:=Ff h he_
 replace hext:=hext.t hx8
 replace hA3:=hA3.mono hx8.1
 refine rn 1 3 [(3,iv y5.1)] hF fun a hF=>wfn rfl ?_
 refine Ak<|esr ?_
 obtain ⟨aF,aB,h⟩:=A0 h
 refine qo 3 3 [(8,.bool (aF==1))] hF (oR 3 aB<|A3) fun a hF=>wfn rfl ?_
 refine A8 hF h (fun hc h=>?_) fun hc h=>?_
 ·refine esr ?_
  obtain ⟨aI,aC,h⟩:=A0 h
  obtain ⟨aG,aD,h⟩:=A0 h
  refine ro 5 5 [(2,iv aG)] hF (oA 3 aC<|oQ 3 aD<|A3) fun a hF=>wfn rfl ?_
  refine wpIn_ret (A2<|A9 [.tmp 2] [_] hF rfl ⟨rfl,trivial⟩ ?_)
  obtain rfl:=Ai h
  replace hS:=hS
  exact .inl ⟨_,_,rfl,rfl,ν7,a0,a3,hext,hlow,rfl,a6,hS⟩
 ·refine wK<|esr ?_
  obtain ⟨aH,aE,h⟩:=A0 h
  refine ro 3 3 [(2,iv aH)] hF (oQ 3 aE<|A3) fun a hF=>wfn rfl ?_
  refine wpIn_ret (A9 [.tmp 2] [_] hF rfl ⟨rfl,trivial⟩ ?_)
  obtain rfl:=Ai h
  replace hS:=hS
  exact .inl ⟨_,_,rfl,rfl,ν7,a0,a3,hext,hlow,rfl,a6,hS⟩
theorem Mp (F:Nat) (p0:api_Site) (res:Int) (h:E7 F p0=some res) (μ:Frz) (w0:World) (hm:FrzAt μ w0):Calls Tryz.prog 93 #[p0.ag] w0 (fun e w=>e=.returned (iv res)∧Ext w0 w):=by
 obtain ⟨hlow,hS⟩:=hm.init
 have hext:=Frz.ext_refl w0.heap.size μ
 rw [E7] at h
 refine feW Tryz.func93 38 [(0,p0.ag)] hS fun a w hF hS=>?_
 refine esr<|SK.wi (qBa 38 p0.ar (fun b1=>[(1,pb b1)]) hF hS fun b1 w a hF hS=>?_)
 refine qn 1 2 [] hF fun a hF=>wfn rfl ?_
 refine Ak<|wpIn_block<|esr ?_
 obtain ⟨y2,hy2,h⟩:=A0 h
 refine qx 5 5 [(3,.bool (!y2))] hF (oL 9 0 0 hS.e rfl rfl<|oC (fun w2 hd=>R7 F p0.Name _ hy2 _ w2 (A1 w2))<|A3) fun a w hF hx=>?_
 replace hS:=hS.later hx
 refine wfn rfl ?_
 refine A8 hF h (fun hc h=>?_) fun hc h=>?_
 ·refine rnB [(2,iv 10)] hF fun a hF=>?_
  refine wpIn_ret (Ab<|A2<|A9 [.tmp 2] [_] hF rfl ⟨rfl,trivial⟩ ?_)
  obtain rfl:=Ai h
  exact ⟨rfl,hS.ext⟩
 ·refine D4 (fun a w=>∃(c3:Bool),Fr 38 [] [(1,pb b1),(8,.bool c3)] a∧St w0 [blk b1 38 p0.ar,fz w0 μ] w∧Db p0 c3=some res) ?_ ?_
  ·skip
   refine esr<|qx 5 5 [(8,.bool (!(Aa p0.X (-1048576) 1048576)))] hF (oL 3 0 1 hS.e rfl rfl<|oC (fun w2 hd=>Cb p0.X (-1048576) 1048576 _ rfl _ w2 (A1 w2))<|A3) fun a w hF hx=>?_
   replace hS:=hS.later hx
   refine wfn rfl ?_
   refine A8 hF h (fun hc h=>?_) fun hc h=>?_
   ·refine wK ?_
    exact ⟨!(Aa p0.X (-1048576) 1048576),hF.sub kr,St.pick [0,1] (by decide) hS,h⟩
   ·refine esr<|rX 5 5 [(1,pb b1),(8,.bool (!(Aa p0.Y (-1048576) 1048576)))] hF (oL 3 0 2 hS.e rfl rfl<|oC (fun w2 hd=>Cb p0.Y (-1048576) 1048576 _ rfl _ w2 (A1 w2))<|A3) fun a w hF hx=>?_
    replace hS:=hS.later hx
    refine wfn rfl ?_
    refine A8 hF h (fun hc h=>?_) fun hc h=>?_
    ·refine wK ?_
     exact ⟨!(Aa p0.Y (-1048576) 1048576),hF.sub kr,St.pick [0,1] (by decide) hS,h⟩
    ·refine WI.region<|rX 5 5 [(1,pb b1),(8,.bool (!(Aa p0.Z 0 20000)))] hF (oL 3 0 3 hS.e rfl rfl<|oC (fun w2 hd=>Cb p0.Z 0 20000 _ rfl _ w2 (A1 w2))<|A3) fun a w hF hx=>?_
     replace hS:=hS.later hx
     refine wfn rfl ?_
     exact ⟨!(Aa p0.Z 0 20000),hF.sub kr,St.pick [0,1] (by decide) hS,h⟩
  rintro a w ⟨c3,hF,hS,h⟩
  rw [Db] at h
  refine A8 hF h (fun hc h=>?_) fun hc h=>?_
  ·refine rnB [(2,iv 3)] hF fun a hF=>?_
   refine wpIn_ret (Ab<|A2<|A9 [.tmp 2] [_] hF rfl ⟨rfl,trivial⟩ ?_)
   obtain rfl:=Ai h
   exact ⟨rfl,hS.ext⟩
  ·refine D4 (fun a w=>∃(c4:Bool),Fr 38 [] [(21,.bool c4)] a∧St w0 [blk b1 38 p0.ar,fz w0 μ] w∧Cz c4=some res) ?_ ?_
   ·skip
    refine esr<|rX 5 5 [(1,pb b1),(21,.bool (!(Aa p0.Rose 1 90)))] hF (oL 3 0 4 hS.e rfl rfl<|oC (fun w2 hd=>Cb p0.Rose 1 90 _ rfl _ w2 (A1 w2))<|A3) fun a w hF hx=>?_
    replace hS:=hS.later hx
    refine wfn rfl ?_
    refine A8 hF h (fun hc h=>?_) fun hc h=>?_
    ·refine wK ?_
     exact ⟨!(Aa p0.Rose 1 90),hF.sub kr,St.pick [0,1] (by decide) hS,h⟩
    ·refine esr<|rX 5 5 [(1,pb b1),(21,.bool (!(Aa p0.Gates 1 200)))] hF (oL 3 0 5 hS.e rfl rfl<|oC (fun w2 hd=>Cb p0.Gates 1 200 _ rfl _ w2 (A1 w2))<|A3) fun a w hF hx=>?_
     replace hS:=hS.later hx
     refine wfn rfl ?_
     refine A8 hF h (fun hc h=>?_) fun hc h=>?_
     ·refine wK ?_
      exact ⟨!(Aa p0.Gates 1 200),hF.sub kr,St.pick [0,1] (by decide) hS,h⟩
     ·refine esr<|rX 5 5 [(1,pb b1),(21,.bool (!(Aa p0.Step 50 2000)))] hF (oL 3 0 6 hS.e rfl rfl<|oC (fun w2 hd=>Cb p0.Step 50 2000 _ rfl _ w2 (A1 w2))<|A3) fun a w hF hx=>?_
      replace hS:=hS.later hx
      refine wfn rfl ?_
      refine A8 hF h (fun hc h=>?_) fun hc h=>?_
      ·refine wK ?_
       exact ⟨!(Aa p0.Step 50 2000),hF.sub kr,St.pick [0,1] (by decide) hS,h⟩
      ·refine WI.region<|rX 5 5 [(21,.bool (!(Aa p0.Width 0 8)))] hF (oL 3 0 7 hS.e rfl rfl<|oC (fun w2 hd=>Cb p0.Width 0 8 _ rfl _ w2 (A1 w2))<|A3) fun a w hF hx=>?_
       replace hS:=hS.later hx
       refine wfn rfl ?_
       exact ⟨!(Aa p0.Width 0 8),hF.sub kr,St.pick [0,1] (by decide) hS,h⟩
   rintro a w ⟨c4,hF,hS,h⟩
   rw [Cz] at h
   refine A8 hF h (fun hc h=>?_) fun hc h=>?_
   ·refine rnB [(2,iv 3)] hF fun a hF=>?_
    refine wpIn_ret (Ab<|A2<|A9 [.tmp 2] [_] hF rfl ⟨rfl,trivial⟩ ?_)
    obtain rfl:=Ai h
    exact ⟨rfl,hS.ext⟩
   ·refine wpIn_skip (A7<|A4<|?_)
    refine rnB [(2,iv 0)] hF fun a hF=>?_
    refine wpIn_ret (A9 [.tmp 2] [_] hF rfl ⟨rfl,trivial⟩ ?_)
    obtain rfl:=Ai h
    exact ⟨rfl,hS.ext⟩
theorem Mo (p0:api_Grid) (res:Int) (h:Bj p0=res) (μ:Frz) (w0:World) (hm:FrzAt μ w0):Calls Tryz.prog 96 #[p0.ag] w0 (fun e w=>e=.returned (iv res)∧Ext w0 w):=by
 obtain ⟨hlow,hS⟩:=hm.init
 have hext:=Frz.ext_refl w0.heap.size μ
 rw [Bj] at h
 refine feW Tryz.func96 24 [(0,p0.ag)] hS fun a w hF hS=>?_
 refine esr<|SK.wi (qBa 43 p0.ar (fun b1=>[(1,pb b1)]) hF hS fun b1 w a hF hS=>?_)
 refine qn 1 2 [] hF fun a hF=>wfn rfl ?_
 refine Ak<|wpIn_block<|D4 (fun a w=>∃(c2:Bool),Fr 24 [] [(3,.bool c2)] a∧St w0 [blk b1 43 p0.ar,fz w0 μ] w∧Cm c2=res) ?_ ?_
 ·skip
  refine esr<|qx 5 5 [(3,.bool (!(Aa p0.X (-1048576) 1048576)))] hF (oL 3 0 0 hS.e rfl rfl<|oC (fun w2 hd=>Cb p0.X (-1048576) 1048576 _ rfl _ w2 (A1 w2))<|A3) fun a w hF hx=>?_
  replace hS:=hS.later hx
  refine wfn rfl ?_
  refine A8 hF h (fun hc h=>?_) fun hc h=>?_
  ·refine wK ?_
   exact ⟨!(Aa p0.X (-1048576) 1048576),hF.sub kr,St.pick [0,1] (by decide) hS,h⟩
  ·refine esr<|rX 5 5 [(1,pb b1),(3,.bool (!(Aa p0.Y (-1048576) 1048576)))] hF (oL 3 0 1 hS.e rfl rfl<|oC (fun w2 hd=>Cb p0.Y (-1048576) 1048576 _ rfl _ w2 (A1 w2))<|A3) fun a w hF hx=>?_
   replace hS:=hS.later hx
   refine wfn rfl ?_
   refine A8 hF h (fun hc h=>?_) fun hc h=>?_
   ·refine wK ?_
    exact ⟨!(Aa p0.Y (-1048576) 1048576),hF.sub kr,St.pick [0,1] (by decide) hS,h⟩
   ·refine esr<|rX 5 5 [(1,pb b1),(3,.bool (!(Aa p0.Size 1 10000)))] hF (oL 3 0 2 hS.e rfl rfl<|oC (fun w2 hd=>Cb p0.Size 1 10000 _ rfl _ w2 (A1 w2))<|A3) fun a w hF hx=>?_
    replace hS:=hS.later hx
    refine wfn rfl ?_
    refine A8 hF h (fun hc h=>?_) fun hc h=>?_
    ·refine wK ?_
     exact ⟨!(Aa p0.Size 1 10000),hF.sub kr,St.pick [0,1] (by decide) hS,h⟩
    ·refine esr<|rX 5 5 [(1,pb b1),(3,.bool (!(Aa p0.Wide 1 64)))] hF (oL 3 0 3 hS.e rfl rfl<|oC (fun w2 hd=>Cb p0.Wide 1 64 _ rfl _ w2 (A1 w2))<|A3) fun a w hF hx=>?_
     replace hS:=hS.later hx
     refine wfn rfl ?_
     refine A8 hF h (fun hc h=>?_) fun hc h=>?_
     ·refine wK ?_
      exact ⟨!(Aa p0.Wide 1 64),hF.sub kr,St.pick [0,1] (by decide) hS,h⟩
     ·refine WI.region<|rX 5 5 [(3,.bool (!(Aa p0.High 1 64)))] hF (oL 3 0 4 hS.e rfl rfl<|oC (fun w2 hd=>Cb p0.High 1 64 _ rfl _ w2 (A1 w2))<|A3) fun a w hF hx=>?_
      replace hS:=hS.later hx
      refine wfn rfl ?_
      exact ⟨!(Aa p0.High 1 64),hF.sub kr,St.pick [0,1] (by decide) hS,h⟩
 rintro a w ⟨c2,hF,hS,h⟩
 rw [Cm] at h
 refine A8 hF h (fun hc h=>?_) fun hc h=>?_
 ·refine rnB [(2,iv 3)] hF fun a hF=>?_
  refine wpIn_ret (Ab<|A2<|A9 [.tmp 2] [_] hF rfl ⟨rfl,trivial⟩ ?_)
  subst h
  exact ⟨rfl,hS.ext⟩
 ·refine wpIn_skip (A7<|A4<|?_)
  refine rnB [(2,iv 0)] hF fun a hF=>?_
  refine wpIn_ret (A9 [.tmp 2] [_] hF rfl ⟨rfl,trivial⟩ ?_)
  subst h
  exact ⟨rfl,hS.ext⟩
theorem S1 (F:Nat) (p0:(List api_Span)) (res:Bool) (h:Hw F p0=some res) (μ:Frz) (w0:World) (hm:FrzAt μ w0) {ad1:Option Addr} {cap2:Nat} (hA3:ArrM μ 2 api_Span.cells ad1 cap2 p0):Calls Tryz.prog 175 #[sv ad1 p0 cap2] w0 (fun e w=>e=.returned (.bool res)∧Ext w0 w):=by
 obtain ⟨hlow,hS⟩:=hm.init
 have hext:=Frz.ext_refl w0.heap.size μ
 rw [Hw] at h
 refine feW Tryz.func175 28 [(0,sv ad1 p0 cap2)] hS fun a w hF hS=>?_
 refine qnB [] hF fun a hF=>?_
 refine D4 (fun a w=>Fr 28 [] [] a∧St w0 [fz w0 μ] w∧Hm=some res) ?_ ?_
 ·skip
  refine rnB [(5,sv ad1 p0 cap2),(6,iv (ln p0)),(7,iv 0)] hF fun a hF=>?_
  refine wpIn_block<|Cc (fun n_ a w=>∃(a1:Int),Fr 28 [] [(5,sv ad1 p0 cap2),(6,iv (ln p0)),(7,iv a1)] a∧St w0 [fz w0 μ] w∧D7 p0 n_ a1=some res) F ⟨0,hF.sub kr,St.pick [0] (by decide) hS,h⟩ ?_
  rintro nk2 a w ⟨a1,hF,hS,h⟩
  rcases nk2 with _|nk2
  ·cases (show (none:Option Bool)=some res from h)
  obtain ⟨k2,hk2⟩:∃k,k=D7 p0 nk2:=⟨_,rfl⟩
  replace h:Ew p0 k2 a1=some res:=by rw [hk2];exact h
  rw [Ew] at h
  refine qnB [(8,.bool (decide (a1<(ln p0))))] hF fun a hF=>?_
  refine Ak<|A8 hF h (fun hc h=>?_) fun hc h=>?_
  ·refine wK<|Ak<|wpIn_block<|esr ?_
   obtain ⟨a0,a4,h⟩:=A0 h
   refine qo 2 2 [(10,.agg #[iv a0.Lo,iv a0.Hi])] hF (oI 44 (hA3 _ (hS.frz (i:=0) rfl hlow)) a4<|oG 146 0 2 api_Span.cells_len (fun _ hd=>(hA3 _ ((hS.at_ hd).frz (i:=0) rfl hlow))) a4<|A3) fun a hF=>?_
   refine SK.wi (qA 146 #[iv 0,iv 0] (fun a3=>[(4,pb a3)]) hF hS fun a3 w a hF hS=>?_)
   refine SK.wi (qw 146 0 #[iv a0.Lo,iv a0.Hi] hF hS rfl fun w a hF hS=>wfn rfl ?_)
   refine esr ?_
   obtain ⟨a5,a7,h⟩:=A0 h
   obtain ⟨a2,a8,h⟩:=A0 h
   refine qx 16 16 [(26,.bool (bif (!(As a0.Lo (-32768) 32767)) then true else (!(As a0.Hi a0.Lo a2))))] hF (oL 3 0 0 hS.e rfl rfl<|oC (fun w2 hd=>Gk a0.Lo (-32768) 32767 _ rfl _ w2 (A1 w2))<|oGs [⟨15,false,(!(As a0.Lo (-32768) 32767))⟩] (oL 3 0 1 hS.e rfl rfl<|oL 3 0 0 hS.e rfl rfl<|oL 3 0 0 hS.e rfl rfl<|A3)<|oX (.run [⟨15,false,(!(As a0.Lo (-32768) 32767))⟩] (binOp .add 3 (iv a0.Lo) (iv 65536)) (iv a5)) (Tj (fun hk=>Cs a7 hk))<|oX (.run [⟨15,false,(!(As a0.Lo (-32768) 32767))⟩] (binOp .sub 3 (iv a5) (iv 1)) (iv a2)) (Tl (fun hk=>Cs a8 hk))<|oGs [⟨15,false,(!(As a0.Lo (-32768) 32767))⟩] (oC (fun w2 hd=>Gk a0.Hi a0.Lo a2 _ rfl _ w2 (A1 w2))<|A3)<|A3) fun a w hF hx=>?_
   replace hS:=hS.later hx
   refine wfn rfl ?_
   refine A8 hF h (fun hc h=>?_) fun hc h=>?_
   ·refine rnB [(2,.bool false)] hF fun a hF=>?_
    refine wpIn_ret (Ab<|A2<|A2<|Ab<|A2<|A9 [.tmp 2] [_] hF rfl ⟨rfl,trivial⟩ ?_)
    obtain rfl:=Ai h
    exact ⟨rfl,hS.ext⟩
   ·refine wpIn_skip (A7<|A4<|?_)
    refine WI.region ?_
    obtain ⟨a6,a9,h⟩:=A0 h
    refine ro 2 2 [(5,sv ad1 p0 cap2),(6,iv (ln p0)),(7,iv a6)] hF (oA 3 a9<|A3) fun a hF=>wfn rfl ?_
    rw [hk2] at h
    exact ⟨nk2,Nat.lt_succ_self _,a6,hF.sub kr,St.pick [1] (by decide) hS,h⟩
  ·refine wpIn_exit (A6<|A6<|Aq<|A4 ?_)
   exact ⟨hF.sub kr,St.pick [0] (by decide) hS,h⟩
 rintro a w ⟨hF,hS,h⟩
 rw [Hm] at h
 refine rnB [(2,.bool true)] hF fun a hF=>?_
 refine wpIn_ret (A9 [.tmp 2] [_] hF rfl ⟨rfl,trivial⟩ ?_)
 obtain rfl:=Ai h
 exact ⟨rfl,hS.ext⟩
theorem Tw (F:Nat) (p0:(List Int)) (res:Bool) (h:Pw F p0=some res) (μ:Frz) (w0:World) (hm:FrzAt μ w0) {ad1:Option Addr} {cap2:Nat} (hA3:ArrM μ 1 (fK .u8) ad1 cap2 p0):Calls Tryz.prog 37 #[sv ad1 p0 cap2] w0 (fun e w=>e=.returned (.bool res)∧Ext w0 w):=by
 obtain ⟨hlow,hS⟩:=hm.init
 have hext:=Frz.ext_refl w0.heap.size μ
 rw [Pw] at h
 refine feW Tryz.func37 47 [(0,sv ad1 p0 cap2)] hS fun a w hF hS=>?_
 refine qnB [] hF fun a hF=>?_
 refine qnB [(3,.bool true)] hF fun a hF=>?_
 refine D4 (fun a w=>∃(a5:Bool),Fr 47 [] [(0,sv ad1 p0 cap2),(3,.bool a5)] a∧St w0 [fz w0 μ] w∧Ml F p0 a5=some res) ?_ ?_
 ·skip
  refine qnB [(9,sv ad1 p0 cap2),(10,iv (ln p0)),(11,iv 0)] hF fun a hF=>?_
  refine wpIn_block<|Cc (fun n_ a w=>∃(a4:Int) (a1:Bool),Fr 47 [] [(0,sv ad1 p0 cap2),(3,.bool a1),(9,sv ad1 p0 cap2),(10,iv (ln p0)),(11,iv a4)] a∧St w0 [fz w0 μ] w∧Ke F p0 n_ a4 a1=some res) F ⟨0,true,hF.sub kr,St.pick [0] (by decide) hS,h⟩ ?_
  rintro nk2 a w ⟨a4,a1,hF,hS,h⟩
  rcases nk2 with _|nk2
  ·cases (show (none:Option Bool)=some res from h)
  obtain ⟨k2,hk2⟩:∃k,k=Ke F p0 nk2:=⟨_,rfl⟩
  replace h:Mk F p0 k2 a4 a1=some res:=by rw [hk2];exact h
  rw [Mk] at h
  refine qnB [(12,.bool (decide (a4<(ln p0))))] hF fun a hF=>?_
  refine Ak<|A8 hF h (fun hc h=>?_) fun hc h=>?_
  ·refine wK<|Ak<|wpIn_block<|esr ?_
   obtain ⟨a3,a8,h⟩:=A0 h
   refine qo 3 3 [(5,.int .u8 a3)] hF (oI 22 (hA3 _ (hS.frz (i:=0) rfl hlow)) a8<|oE 5 0 (Bs .u8) (fun _ hd=>(hA3 _ ((hS.at_ hd).frz (i:=0) rfl hlow))) a8 rfl<|A3) fun a hF=>wfn rfl ?_
   refine WI.region<|rn 10 10 [(0,sv ad1 p0 cap2),(3,.bool (bif (bif a1 then (decide (a3≥128)) else false) then (decide (a3≤254)) else false)),(9,sv ad1 p0 cap2),(10,iv (ln p0)),(11,iv a4)] hF fun a hF=>WI.fin rfl (A7<|A4<|?_)
   refine WI.region ?_
   obtain ⟨aB,aD,h⟩:=A0 h
   refine ro 2 2 [(0,sv ad1 p0 cap2),(3,.bool (bif (bif a1 then (decide (a3≥128)) else false) then (decide (a3≤254)) else false)),(9,sv ad1 p0 cap2),(10,iv (ln p0)),(11,iv aB)] hF (oA 3 aD<|A3) fun a hF=>wfn rfl ?_
   rw [hk2] at h
   exact ⟨nk2,Nat.lt_succ_self _,aB,bif (bif a1 then (decide (a3≥128)) else false) then (decide (a3≤254)) else false,hF.sub kr,St.pick [0] (by decide) hS,h⟩
  ·refine wpIn_exit (A6<|A6<|Aq<|A4 ?_)
   exact ⟨a1,hF.sub kr,St.pick [0] (by decide) hS,h⟩
 rintro a w ⟨a5,hF,hS,h⟩
 rw [Ml] at h
 refine esr<|qn 2 2 [(26,.agg #[sv ad1 p0 cap2])] hF fun a hF=>?_
 refine SK.wi (qBa 125 #[sv ad1 p0 cap2] (fun a2=>[(27,pb a2)]) hF hS fun a2 w a hF hS=>?_)
 refine qn 1 4 [(6,pb a2)] hF fun a hF=>wfn rfl ?_
 refine esr<|qn 1 1 [(29,pb a2)] hF fun a hF=>?_
 obtain ⟨a0,aE,h⟩:=A0 h
 replace hS:=hS.s1
 refine SK.wi (qR (fun aA=>[(30,aA)]) hF (J0 F _ _ aE μ w0 w _ hlow hA3 hS) ?_)
 rintro aA w a ⟨ν18,aG,aH,a9,hlow,rfl,aI,hS⟩ hF
 replace hext:=hext.t a9
 replace hA3:=hA3.mono a9.1
 refine qn 5 7 [(7,iv a0.1),(8,.bool a0.2.1)] hF fun a hF=>wfn rfl ?_
 refine esr<|rn 2 2 [(6,pb a2),(7,iv a0.1),(8,.bool a0.2.1),(34,.bool a5)] hF fun a hF=>?_
 rcases Bool.eq_false_or_eq_true (a5) with a6|a6
 ·replace h:=Jq h a6
  rw [a6] at hF
  refine qk 3 [(34,.bool true),(35,undef)] hF fun a hF=>?_
  refine qk 4 [(36,undef)] hF fun a hF=>?_
  refine Po 5 [(7,iv a0.1),(34,.bool true),(36,undef),(37,undef)] hF kr ⟨kr⟩ ⟨kr⟩ rfl fun a hF=>?_
  refine Po 6 [(7,iv a0.1),(34,.bool true),(36,undef),(38,undef)] hF kr ⟨kr⟩ ⟨kr⟩ rfl fun a hF=>?_
  refine Po 7 [(7,iv a0.1),(34,.bool true),(36,undef),(39,undef)] hF kr ⟨kr⟩ ⟨kr⟩ rfl fun a hF=>?_
  refine Po 8 [(7,iv a0.1),(34,.bool true),(36,undef),(40,undef)] hF kr ⟨kr⟩ ⟨kr⟩ rfl fun a hF=>?_
  refine Po 9 [(7,iv a0.1),(34,.bool true),(36,undef),(41,undef)] hF kr ⟨kr⟩ ⟨kr⟩ rfl fun a hF=>?_
  refine Po 10 [(34,.bool true),(36,undef),(41,undef),(42,undef)] hF kr ⟨kr⟩ ⟨kr⟩ rfl fun a hF=>?_
  refine Po 11 [(34,.bool true),(36,undef),(41,undef),(43,undef)] hF kr ⟨kr⟩ ⟨kr⟩ rfl fun a hF=>?_
  refine Po 12 [(34,.bool true),(36,undef),(44,undef)] hF kr ⟨kr⟩ ⟨kr⟩ rfl fun a hF=>?_
  refine rk 13 [(34,.bool true),(45,undef)] hF fun a hF=>?_
  refine rn 2 15 [(2,.bool true)] hF fun a hF=>wfn rfl ?_
  refine wpIn_ret (A9 [.tmp 2] [_] hF rfl ⟨rfl,trivial⟩ ?_)
  obtain rfl:=Ai h
  exact ⟨rfl,hS.ext⟩
 ·replace h:=Jp h a6
  rw [a6] at hF
  refine A0y (n:=2) (obs:=[]) 4 [(6,⟨[],pb a2⟩),(7,⟨[],iv a0.1⟩),(34,⟨[],.bool false⟩),(36,⟨[⟨34,false,false⟩],.bool a0.2.1⟩)] hF kr A3 ⟨kr⟩ kr rfl fun a hF=>?_
  replace hF:Fr 47 [] [(6,pb a2),(7,iv a0.1),(34,.bool false),(36,.bool a0.2.1)] a:=hF
  rcases Bool.eq_false_or_eq_true (a0.2.1) with a7|a7
  ·replace h:=Jq h a7
   rw [a7] at hF
   obtain ⟨aF,aC,h⟩:=A0 h
   refine ro 11 15 [(2,.bool (decide ((ln a0.2.2.b)<aF)))] hF (oGs [⟨36,true,true⟩] (oL 22 1 0 hS.i rfl rfl<|oA 3 aC<|A3)<|A3) fun a hF=>wfn rfl ?_
   refine wpIn_ret (A9 [.tmp 2] [_] hF rfl ⟨rfl,trivial⟩ ?_)
   obtain rfl:=Ai h
   exact ⟨rfl,hS.ext⟩
  ·replace h:=Jp h a7
   rw [a7] at hF
   refine qk 5 [(36,.bool false),(37,undef)] hF fun a hF=>?_
   refine qk 6 [(38,undef)] hF fun a hF=>?_
   refine qk 7 [(39,undef)] hF fun a hF=>?_
   refine qk 8 [(40,undef)] hF fun a hF=>?_
   refine qk 9 [(41,undef)] hF fun a hF=>?_
   refine qk 10 [(42,undef)] hF fun a hF=>?_
   refine qk 11 [(43,undef)] hF fun a hF=>?_
   refine qk 12 [(44,undef)] hF fun a hF=>?_
   refine rn 3 15 [(2,.bool false)] hF fun a hF=>wfn rfl ?_
   refine wpIn_ret (A9 [.tmp 2] [_] hF rfl ⟨rfl,trivial⟩ ?_)
   obtain rfl:=Ai h
   exact ⟨rfl,hS.ext⟩
theorem Gf (F:Nat) (p0:volume_writer) (p1:ByteArray) (res:volume_writer) (h:Cy F p0 p1=some res) (μ:Frz) (w0 w1:World) (T_:List Res) (hlow:B2 w0 μ) {cb0:Nat} {ad1:Option Addr} {cap2:Nat} (hS:St w0 (fz w0 μ::blk cb0 138 #[sv ad1 p0.b cap2]::arrT 5 1 (fK .u8) ad1 p0.b.length cap2 p0.b::T_) w1):Bd Tryz.prog 161 #[pb cb0,.string p1] w1 (fun e w=>∃(ν_:Frz) (a3:Option Addr) (a4:Nat),μ.ext w0.heap.size ν_∧B2 w0 ν_∧e=(.tuple #[])∧St w0 (fz w0 ν_::blk cb0 138 #[sv a3 res.b a4]::arrT 5 1 (fK .u8) a3 res.b.length a4 res.b::T_) w):=by
 rw [Cy] at h
 have hext:=Frz.ext_refl w0.heap.size μ
 refine feW Tryz.func161 18 [(0,pb cb0),(1,.string p1)] hS fun a w hF hS=>?_
 refine esr<|qn 3 3 [(4,pb cb0),(6,iv ((p1.size:Nat):Int))] hF fun a hF=>?_
 refine SK.wi (qL 3 69 1 [((p1.size:Nat):Int)] (fun b3=>[(7,sb b3 1)]) Fl hF hS fun b3 w a hF hS=>?_)
 obtain ⟨ν4,hx5,hlow,hS,hz6⟩:=hS.freeze (i:=1) (j:=0) rfl rfl (by decide) hlow
 replace hext:=hext.t hx5
 have hA7:=ArrM.of_arr hz6
 obtain ⟨y8,hy8,h⟩:=A0 h
 refine SK.wi (qR (fun a9=>[]) hF (Al F _ _ _ hy8 ν4 w0 w _ hlow hA7 hS) ?_)
 rintro a9 w a ⟨ν9,a6,a7,a5,hlow,rfl,hS⟩ hF
 replace hext:=hext.t a5
 replace hA7:=hA7.mono a5.1
 refine wfn rfl ?_
 refine WI.region<|ro 6 6 [(9,pb cb0),(13,sv a6 y8.b a7),(14,.string p1)] hF (oL 22 1 0 hS.i rfl rfl<|A3) fun a hF=>?_
 obtain ⟨a2,a8,h⟩:=A0 h
 refine SK.wi (A27 (t:=22) (xt:=9) (ty:=22) (bytes:=1) (l:=y8.b) (fun a0 a1=>[(9,pb cb0),(15,sv a0 a2 a1)]) 2 hF hS rfl kr ⟨kr⟩ kr kr a8 (fun _ _=>⟨kr⟩) fun a0 a1 w a hF hS=>?_)
 refine rn 2 9 [(15,sv a0 a2 a1),(17,pb cb0)] hF fun a hF=>?_
 refine SK.wi (qs 22 1 0 (sv a0 a2 a1) hF hS rfl fun w a hF hS=>?_)
 refine WI.fin rfl ?_
 refine H4 hF rfl ?_
 obtain rfl:=Ai h
 replace hS:=hS
 exact ⟨_,rfl,ν9,a0,a1,hext,hlow,rfl,hS⟩
theorem F7 (F:Nat) (p0:volume_writer) (p1:(List Int)) (res:volume_writer) (h:C8 F p0 p1=some res) (μ:Frz) (w0 w1:World) (T_:List Res) (hlow:B2 w0 μ) {cb0:Nat} {ad1:Option Addr} {cap2:Nat} {ad3:Option Addr} {cap4:Nat} (hA5:ArrM μ 1 fI ad3 cap4 p1) (hS:St w0 (fz w0 μ::blk cb0 138 #[sv ad1 p0.b cap2]::arrT 5 1 (fK .u8) ad1 p0.b.length cap2 p0.b::T_) w1):Bd Tryz.prog 168 #[pb cb0,sv ad3 p1 cap4] w1 (fun e w=>∃(ν_:Frz) (aF:Option Addr) (aI:Nat),μ.ext w0.heap.size ν_∧B2 w0 ν_∧e=(.tuple #[])∧St w0 (fz w0 ν_::blk cb0 138 #[sv aF res.b aI]::arrT 5 1 (fK .u8) aF res.b.length aI res.b::T_) w):=by
 rw [C8] at h
 have hext:=Frz.ext_refl w0.heap.size μ
 refine feW Tryz.func168 26 [(0,pb cb0),(1,sv ad3 p1 cap4)] hS fun a w hF hS=>?_
 refine qnB [(6,sv ad3 p1 cap4),(7,iv (ln p1)),(8,iv 0)] hF fun a hF=>?_
 refine wpIn_block ?_
 have aJ:=Frz.le_refl μ
 refine Cc (fun n_ a w=>∃(a3:(List Int)) (a2:Int) (ν130:Frz) (a7:Option Addr) (a9:Nat),Fr 26 [] [(0,pb cb0),(6,sv ad3 p1 cap4),(7,iv (ln p1)),(8,iv a2)] a∧St w0 (arrT 5 1 (fK .u8) a7 a3.length a9 a3::fz w0 ν130::blk cb0 138 #[sv a7 a3 a9]::T_) w∧(μ.le ν130)∧(μ.ext w0.heap.size ν130)∧(B2 w0 ν130)∧Ba F p1 n_ a3 a2=some res) F ⟨p0.b,0,μ,ad1,cap2,hF.sub kr,hS.s2,aJ,hext,hlow,h⟩ ?_
 clear aJ
 rintro nk1 a w ⟨a3,a2,ν130,a7,a9,hF,hS,a0,hext,hlow,h⟩
 rcases nk1 with _|nk1
 ·cases (show (none:Option volume_writer)=some res from h)
 replace hA5:=hA5.mono a0
 obtain ⟨k1,hk1⟩:∃k,k=Ba F p1 nk1:=⟨_,rfl⟩
 replace h:Dv F p1 k1 a3 a2=some res:=by rw [hk1];exact h
 rw [Dv] at h
 refine qnB [(9,.bool (decide (a2<(ln p1))))] hF fun a hF=>?_
 refine Ak<|A8 hF h (fun hc h=>?_) fun hc h=>?_
 ·refine wK ?_
  have a1:=Frz.le_refl ν130
  refine D4 (fun a w=>∃(a4:(List Int)) (ν163:Frz) (a8:Option Addr) (aA:Nat),Fr 26 [] [(0,pb cb0),(6,sv ad3 p1 cap4),(7,iv (ln p1)),(8,iv a2)] a∧St w0 (arrT 5 1 (fK .u8) a8 a4.length aA a4::fz w0 ν163::blk cb0 138 #[sv a8 a4 aA]::T_) w∧(ν130.le ν163)∧(μ.ext w0.heap.size ν163)∧(B2 w0 ν163)∧C2 a2 k1 a4=some res) ?_ ?_
  ·skip
   refine wpIn_block<|esr ?_
   obtain ⟨aM,aL,h⟩:=A0 h
   refine qo 3 3 [(5,iv aM)] hF (oI 69 (hA5 _ (hS.frz (i:=1) rfl hlow)) aL<|oE 3 0 Fl (fun _ hd=>(hA5 _ ((hS.at_ hd).frz (i:=1) rfl hlow))) aL rfl<|A3) fun a hF=>wfn rfl ?_
   refine qnB [(13,.bool (decide (aM<0)))] hF fun a hF=>?_
   refine A8 hF h (fun hc h=>?_) fun hc h=>?_
   ·refine WI.region ?_
    obtain ⟨b6,aV,h⟩:=A0 h
    obtain ⟨aO,aW,h⟩:=A0 h
    refine qo 4 4 [(14,pb cb0),(17,iv aO)] hF (oM 3 aV<|oS 3 aW<|A3) fun a hF=>?_
    refine SK.wi (qL 3 69 1 [aO] (fun aG=>[(18,sb aG 1)]) Fl hF hS fun aG w a hF hS=>?_)
    obtain ⟨ν174,aB,hlow,hS,b0⟩:=hS.freeze (i:=2) (j:=0) rfl rfl (by decide) hlow
    replace hA5:=hA5.mono aB.1
    replace a0:=a0.t aB.1
    replace a1:=a1.t aB.1
    replace hext:=hext.t aB
    have aD:=ArrM.of_arr b0
    obtain ⟨b4,aY,h⟩:=A0 h
    replace hS:=hS.s2.s2
    refine SK.wi (qR (fun b2=>[]) hF (Al F _ _ _ aY ν174 w0 w _ hlow aD hS) ?_)
    rintro b2 w a ⟨ν179,aQ,aS,a5,hlow,rfl,hS⟩ hF
    replace hext:=hext.t a5
    replace hA5:=hA5.mono a5.1
    replace aD:=aD.mono a5.1
    replace a0:=a0.t a5.1
    replace a1:=a1.t a5.1
    refine WI.fin rfl (A7<|A4<|?_)
    exact ⟨b4.b,ν179,aQ,aS,hF.sub kr,hS.s2,a1,hext,hlow,h⟩
   ·refine WI.region ?_
    obtain ⟨aP,aX,h⟩:=A0 h
    refine qo 3 3 [(20,pb cb0),(22,iv aP)] hF (oM 3 aX<|A3) fun a hF=>?_
    refine SK.wi (qL 3 69 1 [aP] (fun aH=>[(23,sb aH 1)]) Fl hF hS fun aH w a hF hS=>?_)
    obtain ⟨ν186,aC,hlow,hS,b1⟩:=hS.freeze (i:=2) (j:=0) rfl rfl (by decide) hlow
    replace hA5:=hA5.mono aC.1
    replace a0:=a0.t aC.1
    replace a1:=a1.t aC.1
    replace hext:=hext.t aC
    have aE:=ArrM.of_arr b1
    obtain ⟨b5,aZ,h⟩:=A0 h
    replace hS:=hS.s2.s2
    refine SK.wi (qR (fun b3=>[]) hF (Al F _ _ _ aZ ν186 w0 w _ hlow aE hS) ?_)
    rintro b3 w a ⟨ν191,aR,aT,a6,hlow,rfl,hS⟩ hF
    replace hext:=hext.t a6
    replace hA5:=hA5.mono a6.1
    replace aE:=aE.mono a6.1
    replace a0:=a0.t a6.1
    replace a1:=a1.t a6.1
    refine WI.fin rfl (A7<|A4<|?_)
    exact ⟨b5.b,ν191,aR,aT,hF.sub kr,hS.s2,a1,hext,hlow,h⟩
  clear a1
  rintro a w ⟨a4,ν163,a8,aA,hF,hS,aK,hext,hlow,h⟩
  replace hA5:=hA5.mono aK
  replace a0:=a0.t aK
  rw [C2] at h
  refine WI.region ?_
  obtain ⟨aN,aU,h⟩:=A0 h
  refine ro 2 2 [(0,pb cb0),(6,sv ad3 p1 cap4),(7,iv (ln p1)),(8,iv aN)] hF (oA 3 aU<|A3) fun a hF=>wfn rfl ?_
  rw [hk1] at h
  exact ⟨nk1,Nat.lt_succ_self _,a4,aN,ν163,a8,aA,hF.sub kr,hS,a0,hext,hlow,h⟩
 ·refine wpIn_exit (A6<|A6<|Aq<|?_)
  refine H4 hF rfl ?_
  obtain rfl:=Ai h
  replace hS:=hS.s2.s2
  exact ⟨_,rfl,ν130,a7,a9,hext,hlow,rfl,hS⟩
theorem Qw (F:Nat) (p0:api_Site) (res:Int) (h:Gl F p0=some res) (μ:Frz) (w0:World) (hm:FrzAt μ w0):Calls Tryz.prog 79 #[p0.ag] w0 (fun e w=>e=.returned (iv res)∧Ext w0 w):=by
 obtain ⟨hlow,hS⟩:=hm.init
 have hext:=Frz.ext_refl w0.heap.size μ
 rw [Gl] at h
 refine feW Tryz.func79 47 [(0,p0.ag)] hS fun a w hF hS=>?_
 refine esr<|SK.wi (qBa 38 p0.ar (fun b1=>[(1,pb b1)]) hF hS fun b1 w a hF hS=>?_)
 refine qn 1 2 [] hF fun a hF=>wfn rfl ?_
 refine Ak<|esr ?_
 obtain ⟨y2,hy2,h⟩:=A0 h
 refine qx 4 4 [(6,.bool (!y2))] hF (oL 9 0 0 hS.e rfl rfl<|oC (fun w2 hd=>Qg F p0.Name _ hy2 _ w2 (A1 w2))<|A3) fun a w hF hx=>?_
 replace hS:=hS.later hx
 refine wfn rfl ?_
 refine A8 hF h (fun hc h=>?_) fun hc h=>?_
 ·refine rnB [(2,iv 10)] hF fun a hF=>?_
  refine wpIn_ret (A2<|A9 [.tmp 2] [_] hF rfl ⟨rfl,trivial⟩ ?_)
  obtain rfl:=Ai h
  exact ⟨rfl,hS.ext⟩
 ·refine wK<|Ak<|esr<|rX 40 40 [(46,.bool (bif (bif (bif (bif (bif (bif (!(Ad p0.X (-1048576) 1048576)) then true else (!(Ad p0.Y (-1048576) 1048576))) then true else (!(Ad p0.Z 0 20000))) then true else (!(Ad p0.Rose 1 90))) then true else (!(Ad p0.Gates 1 200))) then true else (!(Ad p0.Step 50 2000))) then true else (!(Ad p0.Width 0 8))))] hF (oL 3 0 1 hS.e rfl rfl<|oC (fun w2 hd=>Bv p0.X (-1048576) 1048576 _ rfl _ w2 (A1 w2))<|oGs [⟨11,false,(!(Ad p0.X (-1048576) 1048576))⟩] (oL 3 0 2 hS.e rfl rfl<|oC (fun w2 hd=>Bv p0.Y (-1048576) 1048576 _ rfl _ w2 (A1 w2))<|A3)<|oGs [⟨17,false,(bif (!(Ad p0.X (-1048576) 1048576)) then true else (!(Ad p0.Y (-1048576) 1048576)))⟩] (oL 3 0 3 hS.e rfl rfl<|oC (fun w2 hd=>Bv p0.Z 0 20000 _ rfl _ w2 (A1 w2))<|A3)<|oGs [⟨23,false,(bif (bif (!(Ad p0.X (-1048576) 1048576)) then true else (!(Ad p0.Y (-1048576) 1048576))) then true else (!(Ad p0.Z 0 20000)))⟩] (oL 3 0 4 hS.e rfl rfl<|oC (fun w2 hd=>Bv p0.Rose 1 90 _ rfl _ w2 (A1 w2))<|A3)<|oGs [⟨29,false,(bif (bif (bif (!(Ad p0.X (-1048576) 1048576)) then true else (!(Ad p0.Y (-1048576) 1048576))) then true else (!(Ad p0.Z 0 20000))) then true else (!(Ad p0.Rose 1 90)))⟩] (oL 3 0 5 hS.e rfl rfl<|oC (fun w2 hd=>Bv p0.Gates 1 200 _ rfl _ w2 (A1 w2))<|A3)<|oGs [⟨35,false,(bif (bif (bif (bif (!(Ad p0.X (-1048576) 1048576)) then true else (!(Ad p0.Y (-1048576) 1048576))) then true else (!(Ad p0.Z 0 20000))) then true else (!(Ad p0.Rose 1 90))) then true else (!(Ad p0.Gates 1 200)))⟩] (oL 3 0 6 hS.e rfl rfl<|oC (fun w2 hd=>Bv p0.Step 50 2000 _ rfl _ w2 (A1 w2))<|A3)<|oGs [⟨41,false,(bif (bif (bif (bif (bif (!(Ad p0.X (-1048576) 1048576)) then true else (!(Ad p0.Y (-1048576) 1048576))) then true else (!(Ad p0.Z 0 20000))) then true else (!(Ad p0.Rose 1 90))) then true else (!(Ad p0.Gates 1 200))) then true else (!(Ad p0.Step 50 2000)))⟩] (oL 3 0 7 hS.e rfl rfl<|oC (fun w2 hd=>Bv p0.Width 0 8 _ rfl _ w2 (A1 w2))<|A3)<|A3) fun a w hF hx=>?_
  replace hS:=hS.later hx
  refine wfn rfl ?_
  refine A8 hF h (fun hc h=>?_) fun hc h=>?_
  ·refine rnB [(2,iv 3)] hF fun a hF=>?_
   refine wpIn_ret (A2<|A9 [.tmp 2] [_] hF rfl ⟨rfl,trivial⟩ ?_)
   obtain rfl:=Ai h
   exact ⟨rfl,hS.ext⟩
  ·refine wK<|rnB [(2,iv 0)] hF fun a hF=>?_
   refine wpIn_ret (A9 [.tmp 2] [_] hF rfl ⟨rfl,trivial⟩ ?_)
   obtain rfl:=Ai h
   exact ⟨rfl,hS.ext⟩
theorem Ma (F:Nat) (p0:api_Span) (res:Bool) (h:H9 F p0=some res) (μ:Frz) (w0:World) (hm:FrzAt μ w0):Calls Tryz.prog 110 #[.agg #[iv p0.Lo,iv p0.Hi]] w0 (fun e w=>e=.returned (.bool res)∧Ext w0 w):=by
 obtain ⟨hlow,hS⟩:=hm.init
 have hext:=Frz.ext_refl w0.heap.size μ
 rw [H9] at h
 refine feW Tryz.func110 17 [(0,.agg #[iv p0.Lo,iv p0.Hi])] hS fun a w hF hS=>?_
 refine esr<|SK.wi (qBa 146 #[iv p0.Lo,iv p0.Hi] (fun b1=>[(1,pb b1)]) hF hS fun b1 w a hF hS=>?_)
 refine qn 1 2 [] hF fun a hF=>wfn rfl ?_
 refine esr ?_
 obtain ⟨x2,hx2,h⟩:=A0 h
 obtain ⟨x3,hx3,h⟩:=A0 h
 refine rX 15 15 [(2,.bool (bif (Ad p0.Lo (-32768) 32767) then (Ad p0.Hi p0.Lo x3) else false))] hF (oL 3 0 0 hS.e rfl rfl<|oC (fun w2 hd=>Bv p0.Lo (-32768) 32767 _ rfl _ w2 (A1 w2))<|oGs [⟨6,true,(Ad p0.Lo (-32768) 32767)⟩] (oL 3 0 1 hS.e rfl rfl<|oL 3 0 0 hS.e rfl rfl<|oL 3 0 0 hS.e rfl rfl<|A3)<|oX (.run [⟨6,true,(Ad p0.Lo (-32768) 32767)⟩] (binOp .add 3 (iv p0.Lo) (iv 65536)) (iv x2)) (Tj (fun hk=>Cs hx2 hk))<|oX (.run [⟨6,true,(Ad p0.Lo (-32768) 32767)⟩] (binOp .sub 3 (iv x2) (iv 1)) (iv x3)) (Tl (fun hk=>Cs hx3 hk))<|oGs [⟨6,true,(Ad p0.Lo (-32768) 32767)⟩] (oC (fun w2 hd=>Bv p0.Hi p0.Lo x3 _ rfl _ w2 (A1 w2))<|A3)<|A3) fun a w hF hx=>?_
 replace hS:=hS.later hx
 refine wfn rfl ?_
 refine wpIn_ret (A9 [.tmp 2] [_] hF rfl ⟨rfl,trivial⟩ ?_)
 obtain rfl:=Ai h
 exact ⟨rfl,hS.ext⟩
theorem Qv (p0:api_Grid) (res:Int) (h:D2 p0=res) (μ:Frz) (w0:World) (hm:FrzAt μ w0):Calls Tryz.prog 102 #[p0.ag] w0 (fun e w=>e=.returned (iv res)∧Ext w0 w):=by
 obtain ⟨hlow,hS⟩:=hm.init
 have hext:=Frz.ext_refl w0.heap.size μ
 rw [D2] at h
 refine feW Tryz.func102 31 [(0,p0.ag)] hS fun a w hF hS=>?_
 refine esr<|SK.wi (qBa 43 p0.ar (fun b1=>[(1,pb b1)]) hF hS fun b1 w a hF hS=>?_)
 refine qn 1 2 [] hF fun a hF=>wfn rfl ?_
 refine Ak<|esr<|rX 28 28 [(30,.bool (bif (bif (bif (bif (!(Ad p0.X (-1048576) 1048576)) then true else (!(Ad p0.Y (-1048576) 1048576))) then true else (!(Ad p0.Size 1 10000))) then true else (!(Ad p0.Wide 1 64))) then true else (!(Ad p0.High 1 64))))] hF (oL 3 0 0 hS.e rfl rfl<|oC (fun w2 hd=>Bv p0.X (-1048576) 1048576 _ rfl _ w2 (A1 w2))<|oGs [⟨7,false,(!(Ad p0.X (-1048576) 1048576))⟩] (oL 3 0 1 hS.e rfl rfl<|oC (fun w2 hd=>Bv p0.Y (-1048576) 1048576 _ rfl _ w2 (A1 w2))<|A3)<|oGs [⟨13,false,(bif (!(Ad p0.X (-1048576) 1048576)) then true else (!(Ad p0.Y (-1048576) 1048576)))⟩] (oL 3 0 2 hS.e rfl rfl<|oC (fun w2 hd=>Bv p0.Size 1 10000 _ rfl _ w2 (A1 w2))<|A3)<|oGs [⟨19,false,(bif (bif (!(Ad p0.X (-1048576) 1048576)) then true else (!(Ad p0.Y (-1048576) 1048576))) then true else (!(Ad p0.Size 1 10000)))⟩] (oL 3 0 3 hS.e rfl rfl<|oC (fun w2 hd=>Bv p0.Wide 1 64 _ rfl _ w2 (A1 w2))<|A3)<|oGs [⟨25,false,(bif (bif (bif (!(Ad p0.X (-1048576) 1048576)) then true else (!(Ad p0.Y (-1048576) 1048576))) then true else (!(Ad p0.Size 1 10000))) then true else (!(Ad p0.Wide 1 64)))⟩] (oL 3 0 4 hS.e rfl rfl<|oC (fun w2 hd=>Bv p0.High 1 64 _ rfl _ w2 (A1 w2))<|A3)<|A3) fun a w hF hx=>?_
 replace hS:=hS.later hx
 refine wfn rfl ?_
 refine A8 hF h (fun hc h=>?_) fun hc h=>?_
 ·refine rnB [(2,iv 3)] hF fun a hF=>?_
  refine wpIn_ret (A2<|A9 [.tmp 2] [_] hF rfl ⟨rfl,trivial⟩ ?_)
  subst h
  exact ⟨rfl,hS.ext⟩
 ·refine wK<|rnB [(2,iv 0)] hF fun a hF=>?_
  refine wpIn_ret (A9 [.tmp 2] [_] hF rfl ⟨rfl,trivial⟩ ?_)
  subst h
  exact ⟨rfl,hS.ext⟩
theorem Nu (F:Nat) (p0:ByteArray) (res:(List Int)) (h:Gx F p0=some res) (μ:Frz) (w0:World) (hm:FrzAt μ w0):Bd Tryz.prog 105 #[.string p0] w0 (fun e w=>∃zad0 zcap0,e=(sv zad0 res zcap0)∧St w0 [arr 5 1 (fK .u8) zad0 res.length zcap0 res] w):=by
 obtain ⟨hlow,hS⟩:=hm.init
 have hext:=Frz.ext_refl w0.heap.size μ
 rw [Gx] at h
 refine feW Tryz.func105 9 [(0,.string p0)] hS fun a w hF hS=>?_
 refine qnB [] hF fun a hF=>?_
 refine esr<|qn 2 2 [(4,iv ((p0.size:Nat):Int))] hF fun a hF=>?_
 obtain ⟨y2,hy2,h⟩:=A0 h
 refine SK.wi (qR (fun v1=>[(5,v1)]) hF (An F _ _ hy2 (Av w) w (A1 w)) ?_)
 rintro v1 w a ⟨ad3,cap4,rfl,hQ⟩ hF
 replace hS:=hS.madeL hQ
 refine rn 1 4 [(5,sv ad3 y2 cap4),(6,.string p0)] hF fun a hF=>?_
 obtain ⟨l5,hl5,h⟩:=A0 h
 refine SK.wi (Y9 (src:=9) (dst:=22) 5 (fun ad6 cap7=>[(5,sv ad3 y2 cap4),(7,sv ad6 l5 cap7)]) hF hS kr ⟨kr⟩ kr kr kr hl5 (fun _ _=>⟨kr⟩) fun ad6 cap7 w a hF hS=>?_)
 obtain ⟨l8,hl8,h⟩:=A0 h
 refine SK.wi (rP 22 22 1 (fun ad9 a0=>[(8,sv ad9 l8 a0)]) hF hS (hS.arrT_ (i:=0) rfl) hl8 rfl fun ad9 a0 w a hF hS=>?_)
 refine rn 1 7 [(2,sv ad9 l8 a0)] hF fun a hF=>wfn rfl ?_
 refine wpIn_ret (A9 [.tmp 2] [_] hF rfl ⟨rfl,trivial⟩ ?_)
 obtain rfl:=Ai h
 exact ⟨_,rfl,_,_,rfl,St.pick [1] (by decide) hS⟩
theorem G7 (F:Nat) (p0:Int) (res:(List Int)) (h:Ci F p0=some res) (μ:Frz) (w0:World) (hm:FrzAt μ w0):Bd Tryz.prog 106 #[iv p0] w0 (fun e w=>∃zad0 zcap0,e=(sv zad0 res zcap0)∧St w0 [arr 5 1 (fK .u8) zad0 res.length zcap0 res] w):=by
 obtain ⟨hlow,hS⟩:=hm.init
 have hext:=Frz.ext_refl w0.heap.size μ
 rw [Ci] at h
 refine feW Tryz.func106 12 [(0,iv p0)] hS fun a w hF hS=>?_
 refine qnB [] hF fun a hF=>?_
 refine Ak<|qnB [(4,.bool (decide (p0<0)))] hF fun a hF=>?_
 refine A8 hF h (fun hc h=>?_) fun hc h=>?_
 ·refine esr ?_
  obtain ⟨x1,hx1,h⟩:=A0 h
  obtain ⟨x2,hx2,h⟩:=A0 h
  refine ro 3 3 [(7,iv x2)] hF (oM 3 hx1<|oS 3 hx2<|A3) fun a hF=>?_
  obtain ⟨y4,hy4,h⟩:=A0 h
  refine SK.wi (rR (fun v3=>[(8,v3)]) hF (An F _ _ hy4 (Av w) w (A1 w)) ?_)
  rintro v3 w a ⟨ad5,cap6,rfl,hQ⟩ hF
  replace hS:=hS.madeL hQ
  refine rn 1 5 [(2,sv ad5 y4 cap6)] hF fun a hF=>wfn rfl ?_
  refine wpIn_ret (A2<|A9 [.tmp 2] [_] hF rfl ⟨rfl,trivial⟩ ?_)
  obtain rfl:=Ai h
  exact ⟨_,rfl,_,_,rfl,St.pick [0] (by decide) hS⟩
 ·refine wK<|esr ?_
  obtain ⟨x7,hx7,h⟩:=A0 h
  refine ro 2 2 [(10,iv x7)] hF (oM 3 hx7<|A3) fun a hF=>?_
  obtain ⟨y9,hy9,h⟩:=A0 h
  refine SK.wi (rR (fun v8=>[(11,v8)]) hF (An F _ _ hy9 (Av w) w (A1 w)) ?_)
  rintro v8 w a ⟨a0,a1,rfl,hQ⟩ hF
  replace hS:=hS.madeL hQ
  refine rn 1 4 [(2,sv a0 y9 a1)] hF fun a hF=>wfn rfl ?_
  refine wpIn_ret (A9 [.tmp 2] [_] hF rfl ⟨rfl,trivial⟩ ?_)
  obtain rfl:=Ai h
  exact ⟨_,rfl,_,_,rfl,St.pick [0] (by decide) hS⟩
end Go.Proofs.YtifbomimeodibaaGreat
