import Derived.Test.YtifbomimeodibaaGreatV4XD
import Derived.Test.YtifbomimeodibaaGreatProg
import Derived.Test.YtifbomimeodibaaGreatV4XW0
import Derived.Test.YtifbomimeodibaaGreatV4XW1
import Derived.Test.YtifbomimeodibaaGreatV4XW2
import Derived.Test.YtifbomimeodibaaGreatV4XW3
namespace Go.Proofs.YtifbomimeodibaaGreat
open Go Go.RowKit Go.Eng
set_option maxRecDepth 10000
set_option maxHeartbeats 4000000
set_option linter.unusedVariables false
set_option linter.unusedSimpArgs false
theorem Gl (F:Nat) (p0:volume_reader) (res:Except (Value×volume_reader) (ByteArray×volume_reader)) (h:Ev F p0=some res) (μ:Frz) (w0 w1:World) (T_:List Res) (hlow:B4 w0 μ) {cb0:Nat} {ad1:Option Addr} {cap2:Nat} (hA3:ArrM μ 1 (fK .u8) ad1 cap2 p0.b) (hS:St w0 (fz w0 μ::blk cb0 125 #[sv ad1 p0.b cap2]::T_) w1):Nk Tryz.prog 91 #[pb cb0] w1 res (fun r_ e w=>∃(ν_:Frz) (a5:Option Addr) (a7:Nat),μ.ext w0.heap.size ν_∧B4 w0 ν_∧e=(.string r_.1)∧(ArrM ν_ 1 (fK .u8) a5 a7 r_.2.b)∧St w0 (fz w0 ν_::blk cb0 125 #[sv a5 r_.2.b a7]::T_) w) (fun e_ w=>∃(ν_:Frz) (a6:Option Addr) (a8:Nat),μ.ext w0.heap.size ν_∧B4 w0 ν_∧(ArrM ν_ 1 (fK .u8) a6 a8 e_.b)∧St w0 (fz w0 ν_::blk cb0 125 #[sv a6 e_.b a8]::T_) w):=by
 rw [Ev] at h
 have hext:=Frz.ext_refl w0.heap.size μ
 refine Ag Tryz.func91 rfl 32 [(0,pb cb0)] rfl rfl kr fun a w hw hF=>?_
 replace hS:=hS.cast hw
 clear hw
 refine qnB [] hF fun a hF=>?_
 refine esr ?_
 refine qn 1 1 [(5,pb cb0)] hF fun a hF=>?_
 obtain ⟨y4,hy4,h⟩:=A1 h
 refine Db (fun v9=>[(0,pb cb0),(6,v9)]) hF kr ⟨kr⟩ (Al F _ _ hy4 μ w0 w _ hlow hA3 hS) (fun _=>⟨kr⟩) ?_ ?_
 ·rintro e6 w he_ ⟨ν13,aC,aD,aB,hlow,aE,hS⟩
  replace h:=Fm h he_
  replace hext:=Frz.ext_trans hext aB
  replace hA3:=hA3.mono aB.1
  refine A7<|Ax hF ?_
  obtain rfl:=Ao h
  replace hS:=hS
  exact .inr ⟨_,rfl,rfl,ν13,aC,aD,hext,hlow,aE,hS⟩
 rintro y5 v9 w a he_ ⟨ν7,a1,a0,hx8,hlow,rfl,a3,hS⟩ hF
 replace h:=Fo h he_
 replace hext:=Frz.ext_trans hext hx8
 replace hA3:=hA3.mono hx8.1
 refine rn 1 3 [(0,pb cb0),(3,iv y5.1)] hF fun a hF=>?_
 refine wfn rfl ?_
 refine D9 (fun a w=>Fr 32 [] [(0,pb cb0),(3,iv y5.1)] a∧St w0 (fz w0 ν7::blk cb0 125 #[sv a1 y5.2.b a0]::T_) w∧Gk y5=some res) ?_ ?_
 ·skip
  refine qoB [(13,.bool (decide (y5.1>(ln y5.2.b))))] hF (oL 22 1 0 hS.i rfl rfl<|A9) fun a hF=>?_
  refine Aj hF rfl (fun hc=>?_) (fun hc=>?_)
  ·replace h:=Af h hc
   refine WI.region ?_
   refine qn 1 1 [(14,.iface 128 (iv 7))] hF fun a hF=>?_
   refine Ny (t:=128) (v:=iv 7) hF ⟨kr⟩ (A7<|Ax hF ?_)
   obtain rfl:=Ao h
   replace hS:=hS
   exact .inr ⟨_,rfl,rfl,ν7,a1,a0,hext,hlow,a3,hS⟩
  ·replace h:=Ae h hc
   refine wpIn_skip (A0 ?_)
   exact ⟨hF.sub kr,hS,h⟩
 rintro a w ⟨hF,hS,h⟩
 rw [Gk] at h
 refine esr ?_
 obtain ⟨a2,a9,h⟩:=A1 h
 have aF:ArrM ν7 1 (fK .u8) (Aw a1 a0 (0:Int).toNat 1) (a0-(0:Int).toNat) a2:=fun w_ hw_=>(a3 w_ hw_).cutD (Bx .u8) a9
 refine qo 8 8 [(4,.string (bst a2))] hF (oL 22 1 0 hS.i rfl rfl<|oX (.run [] (Instr.sliceAt 22 (sv a1 y5.2.b a0) none (some (iv y5.1)) none) (.slice (Aw a1 a0 (0:Int).toNat 1) a2.length (a0-(0:Int).toNat))) (Tr kr (a3 _ (hS.frz (i:=0) rfl hlow)) (fun _=>a9))<|oX (.run [] (convert 22 9 (.slice (Aw a1 a0 (0:Int).toNat 1) a2.length (a0-(0:Int).toNat))) (.string (bst a2))) (Yw kr kr (fun _ hd=>(aF _ ((hS.at_ hd).frz (i:=0) rfl hlow))))<|A9) fun a hF=>?_
 refine wfn rfl ?_
 refine esr ?_
 obtain ⟨a4,aA,h⟩:=A1 h
 have aG:ArrM ν7 1 (fK .u8) (Aw a1 a0 y5.1.toNat 1) (a0-y5.1.toNat) a4:=fun w_ hw_=>(a3 w_ hw_).cutD (Bx .u8) aA
 refine qo 9 9 [(28,.slice (Aw a1 a0 y5.1.toNat 1) a4.length (a0-y5.1.toNat)),(30,pb cb0)] hF (oL 22 1 0 hS.i rfl rfl<|oX (.run [] (Instr.sliceAt 22 (sv a1 y5.2.b a0) (some (iv y5.1)) none none) (.slice (Aw a1 a0 y5.1.toNat 1) a4.length (a0-y5.1.toNat))) (N5 kr (a3 _ (hS.frz (i:=0) rfl hlow)) (fun _=>aA))<|A9) fun a hF=>?_
 refine SK.wi (qs 22 1 0 (.slice (Aw a1 a0 y5.1.toNat 1) a4.length (a0-y5.1.toNat)) hF hS rfl fun w a hF hS=>?_)
 refine wfn rfl ?_
 refine rnB [(2,.string (bst a2))] hF fun a hF=>?_
 refine wpIn_ret (Ad [.tmp 2] [.string (bst a2)] hF rfl ⟨rfl,trivial⟩ ?_)
 obtain rfl:=Ao h
 replace hS:=hS
 exact .inl ⟨_,_,rfl,rfl,ν7,(Aw a1 a0 y5.1.toNat 1),(a0-y5.1.toNat),hext,hlow,rfl,aG,hS⟩
theorem D2 (F:Nat) (p0:volume_reader) (res:Except (Value×volume_reader) (Int×volume_reader)) (h:C9 F p0=some res) (μ:Frz) (w0 w1:World) (T_:List Res) (hlow:B4 w0 μ) {cb0:Nat} {ad1:Option Addr} {cap2:Nat} (hA3:ArrM μ 1 (fK .u8) ad1 cap2 p0.b) (hS:St w0 (fz w0 μ::blk cb0 125 #[sv ad1 p0.b cap2]::T_) w1):Nk Tryz.prog 92 #[pb cb0] w1 res (fun r_ e w=>∃(ν_:Frz) (a1:Option Addr) (a4:Nat),μ.ext w0.heap.size ν_∧B4 w0 ν_∧e=(iv r_.1)∧(ArrM ν_ 1 (fK .u8) a1 a4 r_.2.b)∧St w0 (fz w0 ν_::blk cb0 125 #[sv a1 r_.2.b a4]::T_) w) (fun e_ w=>∃(ν_:Frz) (a2:Option Addr) (a5:Nat),μ.ext w0.heap.size ν_∧B4 w0 ν_∧(ArrM ν_ 1 (fK .u8) a2 a5 e_.b)∧St w0 (fz w0 ν_::blk cb0 125 #[sv a2 e_.b a5]::T_) w):=by
 rw [C9] at h
 have hext:=Frz.ext_refl w0.heap.size μ
 refine Ag Tryz.func92 rfl 15 [(0,pb cb0)] rfl rfl kr fun a w hw hF=>?_
 replace hS:=hS.cast hw
 clear hw
 refine qnB [] hF fun a hF=>?_
 refine esr ?_
 refine rn 1 1 [(4,pb cb0)] hF fun a hF=>?_
 obtain ⟨y4,hy4,h⟩:=A1 h
 refine Db (fun v9=>[(5,v9)]) hF kr ⟨kr⟩ (Al F _ _ hy4 μ w0 w _ hlow hA3 hS) (fun _=>⟨kr⟩) ?_ ?_
 ·rintro e6 w he_ ⟨ν13,aA,aB,a7,hlow,aC,hS⟩
  replace h:=Fm h he_
  replace hext:=Frz.ext_trans hext a7
  replace hA3:=hA3.mono a7.1
  refine A7<|Ax hF ?_
  obtain rfl:=Ao h
  replace hS:=hS
  exact .inr ⟨_,rfl,rfl,ν13,aA,aB,hext,hlow,aC,hS⟩
 rintro y5 v9 w a he_ ⟨ν7,a0,a3,hx8,hlow,rfl,a6,hS⟩ hF
 replace h:=Fo h he_
 replace hext:=Frz.ext_trans hext hx8
 replace hA3:=hA3.mono hx8.1
 refine rn 1 3 [(3,iv y5.1)] hF fun a hF=>?_
 refine wfn rfl ?_
 refine Ar ?_
 refine esr ?_
 obtain ⟨aH,aD,h⟩:=A1 h
 refine qo 3 3 [(8,.bool (aH==1))] hF (oR 3 aD<|A9) fun a hF=>?_
 refine wfn rfl ?_
 refine Aj hF rfl (fun hc=>?_) (fun hc=>?_)
 ·replace h:=Af h hc
  refine esr ?_
  obtain ⟨aI,aE,h⟩:=A1 h
  obtain ⟨a8,aF,h⟩:=A1 h
  refine ro 5 5 [(2,iv a8)] hF (oA 3 aE<|oQ 3 aF<|A9) fun a hF=>?_
  refine wfn rfl ?_
  refine wpIn_ret (A6<|Ad [.tmp 2] [iv a8] hF rfl ⟨rfl,trivial⟩ ?_)
  obtain rfl:=Ao h
  replace hS:=hS
  exact .inl ⟨_,_,rfl,rfl,ν7,a0,a3,hext,hlow,rfl,a6,hS⟩
 ·replace h:=Ae h hc
  refine wpIn_skip (A0 ?_)
  refine esr ?_
  obtain ⟨a9,aG,h⟩:=A1 h
  refine ro 3 3 [(2,iv a9)] hF (oQ 3 aG<|A9) fun a hF=>?_
  refine wfn rfl ?_
  refine wpIn_ret (Ad [.tmp 2] [iv a9] hF rfl ⟨rfl,trivial⟩ ?_)
  obtain rfl:=Ao h
  replace hS:=hS
  exact .inl ⟨_,_,rfl,rfl,ν7,a0,a3,hext,hlow,rfl,a6,hS⟩
theorem Mx (F:Nat) (p0:api_Site) (res:Int) (h:Ed F p0=some res) (μ:Frz) (w0:World) (hm:FrzAt μ w0):Calls Tryz.prog 93 #[p0.ag] w0 (fun e w=>e=.returned (iv res)∧Ext w0 w):=by
 obtain ⟨hlow,hS⟩:=hm.init
 have hext:=Frz.ext_refl w0.heap.size μ
 rw [Ed] at h
 refine Ag Tryz.func93 rfl 38 [(0,p0.ag)] rfl rfl kr fun a w hw hF=>?_
 replace hS:=hS.cast hw
 clear hw
 refine esr ?_
 refine SK.wi (J6 (t:=38) (fun b1=>[(1,pb b1)]) (p0.ag) p0.ar hF hS kr ⟨kr⟩ kr (fun _=>⟨kr⟩) fun b1 w a hF hS=>?_)
 refine rn 1 2 [(1,pb b1)] hF fun a hF=>?_
 refine wfn rfl ?_
 refine Ar ?_
 refine wpIn_block ?_
 refine esr ?_
 obtain ⟨y2,hy2,h⟩:=A1 h
 refine qx 5 5 [(3,.bool (!y2))] hF (oL 9 0 0 hS.e rfl rfl<|oC (fun w2 hd=>Rj F p0.Name _ hy2 _ w2 (A5 w2))<|A9) fun a w hF hx=>?_
 replace hS:=hS.later hx
 refine wfn rfl ?_
 refine Aj hF rfl (fun hc=>?_) (fun hc=>?_)
 ·replace h:=Af h hc
  refine rnB [(2,iv 10)] hF fun a hF=>?_
  refine wpIn_ret (Ai<|A6<|Ad [.tmp 2] [iv 10] hF rfl ⟨rfl,trivial⟩ ?_)
  obtain rfl:=Ao h
  exact ⟨rfl,hS.ext⟩
 ·replace h:=Ae h hc
  refine D9 (fun a w=>∃(c3:Bool),Fr 38 [] [(1,pb b1),(8,.bool c3)] a∧St w0 [blk b1 38 p0.ar,fz w0 μ] w∧Dh p0 c3=some res) ?_ ?_
  ·skip
   refine esr ?_
   refine qx 5 5 [(8,.bool (!(Ah p0.X (-1048576) 1048576)))] hF (oL 3 0 1 hS.e rfl rfl<|oC (fun w2 hd=>Ch p0.X (-1048576) 1048576 _ rfl _ w2 (A5 w2))<|A9) fun a w hF hx=>?_
   replace hS:=hS.later hx
   refine wfn rfl ?_
   refine Aj hF rfl (fun hc=>?_) (fun hc=>?_)
   ·replace h:=Af h hc
    refine wpIn_skip (A0 ?_)
    exact ⟨!(Ah p0.X (-1048576) 1048576),hF.sub kr,St.pick [0,1] (by decide) hS,h⟩
   ·replace h:=Ae h hc
    refine esr ?_
    refine rX 5 5 [(1,pb b1),(8,.bool (!(Ah p0.Y (-1048576) 1048576)))] hF (oL 3 0 2 hS.e rfl rfl<|oC (fun w2 hd=>Ch p0.Y (-1048576) 1048576 _ rfl _ w2 (A5 w2))<|A9) fun a w hF hx=>?_
    replace hS:=hS.later hx
    refine wfn rfl ?_
    refine Aj hF rfl (fun hc=>?_) (fun hc=>?_)
    ·replace h:=Af h hc
     refine wpIn_skip (A0 ?_)
     exact ⟨!(Ah p0.Y (-1048576) 1048576),hF.sub kr,St.pick [0,1] (by decide) hS,h⟩
    ·replace h:=Ae h hc
     refine WI.region ?_
     refine rX 5 5 [(1,pb b1),(8,.bool (!(Ah p0.Z 0 20000)))] hF (oL 3 0 3 hS.e rfl rfl<|oC (fun w2 hd=>Ch p0.Z 0 20000 _ rfl _ w2 (A5 w2))<|A9) fun a w hF hx=>?_
     replace hS:=hS.later hx
     refine wfn rfl ?_
     exact ⟨!(Ah p0.Z 0 20000),hF.sub kr,St.pick [0,1] (by decide) hS,h⟩
  rintro a w ⟨c3,hF,hS,h⟩
  rw [Dh] at h
  refine Aj hF rfl (fun hc=>?_) (fun hc=>?_)
  ·replace h:=Af h hc
   refine rnB [(2,iv 3)] hF fun a hF=>?_
   refine wpIn_ret (Ai<|A6<|Ad [.tmp 2] [iv 3] hF rfl ⟨rfl,trivial⟩ ?_)
   obtain rfl:=Ao h
   exact ⟨rfl,hS.ext⟩
  ·replace h:=Ae h hc
   refine D9 (fun a w=>∃(c4:Bool),Fr 38 [] [(21,.bool c4)] a∧St w0 [blk b1 38 p0.ar,fz w0 μ] w∧D5 c4=some res) ?_ ?_
   ·skip
    refine esr ?_
    refine rX 5 5 [(1,pb b1),(21,.bool (!(Ah p0.Rose 1 90)))] hF (oL 3 0 4 hS.e rfl rfl<|oC (fun w2 hd=>Ch p0.Rose 1 90 _ rfl _ w2 (A5 w2))<|A9) fun a w hF hx=>?_
    replace hS:=hS.later hx
    refine wfn rfl ?_
    refine Aj hF rfl (fun hc=>?_) (fun hc=>?_)
    ·replace h:=Af h hc
     refine wpIn_skip (A0 ?_)
     exact ⟨!(Ah p0.Rose 1 90),hF.sub kr,St.pick [0,1] (by decide) hS,h⟩
    ·replace h:=Ae h hc
     refine esr ?_
     refine rX 5 5 [(1,pb b1),(21,.bool (!(Ah p0.Gates 1 200)))] hF (oL 3 0 5 hS.e rfl rfl<|oC (fun w2 hd=>Ch p0.Gates 1 200 _ rfl _ w2 (A5 w2))<|A9) fun a w hF hx=>?_
     replace hS:=hS.later hx
     refine wfn rfl ?_
     refine Aj hF rfl (fun hc=>?_) (fun hc=>?_)
     ·replace h:=Af h hc
      refine wpIn_skip (A0 ?_)
      exact ⟨!(Ah p0.Gates 1 200),hF.sub kr,St.pick [0,1] (by decide) hS,h⟩
     ·replace h:=Ae h hc
      refine esr ?_
      refine rX 5 5 [(1,pb b1),(21,.bool (!(Ah p0.Step 50 2000)))] hF (oL 3 0 6 hS.e rfl rfl<|oC (fun w2 hd=>Ch p0.Step 50 2000 _ rfl _ w2 (A5 w2))<|A9) fun a w hF hx=>?_
      replace hS:=hS.later hx
      refine wfn rfl ?_
      refine Aj hF rfl (fun hc=>?_) (fun hc=>?_)
      ·replace h:=Af h hc
       refine wpIn_skip (A0 ?_)
       exact ⟨!(Ah p0.Step 50 2000),hF.sub kr,St.pick [0,1] (by decide) hS,h⟩
      ·replace h:=Ae h hc
       refine WI.region ?_
       refine rX 5 5 [(21,.bool (!(Ah p0.Width 0 8)))] hF (oL 3 0 7 hS.e rfl rfl<|oC (fun w2 hd=>Ch p0.Width 0 8 _ rfl _ w2 (A5 w2))<|A9) fun a w hF hx=>?_
       replace hS:=hS.later hx
       refine wfn rfl ?_
       exact ⟨!(Ah p0.Width 0 8),hF.sub kr,St.pick [0,1] (by decide) hS,h⟩
   rintro a w ⟨c4,hF,hS,h⟩
   rw [D5] at h
   refine Aj hF rfl (fun hc=>?_) (fun hc=>?_)
   ·replace h:=Af h hc
    refine rnB [(2,iv 3)] hF fun a hF=>?_
    refine wpIn_ret (Ai<|A6<|Ad [.tmp 2] [iv 3] hF rfl ⟨rfl,trivial⟩ ?_)
    obtain rfl:=Ao h
    exact ⟨rfl,hS.ext⟩
   ·replace h:=Ae h hc
    refine wpIn_skip (Ab<|A0<|?_)
    refine rnB [(2,iv 0)] hF fun a hF=>?_
    refine wpIn_ret (Ad [.tmp 2] [iv 0] hF rfl ⟨rfl,trivial⟩ ?_)
    obtain rfl:=Ao h
    exact ⟨rfl,hS.ext⟩
theorem Mw (p0:api_Grid) (res:Int) (h:Bk p0=res) (μ:Frz) (w0:World) (hm:FrzAt μ w0):Calls Tryz.prog 96 #[p0.ag] w0 (fun e w=>e=.returned (iv res)∧Ext w0 w):=by
 obtain ⟨hlow,hS⟩:=hm.init
 have hext:=Frz.ext_refl w0.heap.size μ
 rw [Bk] at h
 refine Ag Tryz.func96 rfl 24 [(0,p0.ag)] rfl rfl kr fun a w hw hF=>?_
 replace hS:=hS.cast hw
 clear hw
 refine esr ?_
 refine SK.wi (J6 (t:=43) (fun b1=>[(1,pb b1)]) (p0.ag) p0.ar hF hS kr ⟨kr⟩ kr (fun _=>⟨kr⟩) fun b1 w a hF hS=>?_)
 refine rn 1 2 [(1,pb b1)] hF fun a hF=>?_
 refine wfn rfl ?_
 refine Ar ?_
 refine wpIn_block ?_
 refine D9 (fun a w=>∃(c2:Bool),Fr 24 [] [(3,.bool c2)] a∧St w0 [blk b1 43 p0.ar,fz w0 μ] w∧Cq c2=res) ?_ ?_
 ·skip
  refine esr ?_
  refine qx 5 5 [(3,.bool (!(Ah p0.X (-1048576) 1048576)))] hF (oL 3 0 0 hS.e rfl rfl<|oC (fun w2 hd=>Ch p0.X (-1048576) 1048576 _ rfl _ w2 (A5 w2))<|A9) fun a w hF hx=>?_
  replace hS:=hS.later hx
  refine wfn rfl ?_
  refine Aj hF rfl (fun hc=>?_) (fun hc=>?_)
  ·replace h:=Af h hc
   refine wpIn_skip (A0 ?_)
   exact ⟨!(Ah p0.X (-1048576) 1048576),hF.sub kr,St.pick [0,1] (by decide) hS,h⟩
  ·replace h:=Ae h hc
   refine esr ?_
   refine rX 5 5 [(1,pb b1),(3,.bool (!(Ah p0.Y (-1048576) 1048576)))] hF (oL 3 0 1 hS.e rfl rfl<|oC (fun w2 hd=>Ch p0.Y (-1048576) 1048576 _ rfl _ w2 (A5 w2))<|A9) fun a w hF hx=>?_
   replace hS:=hS.later hx
   refine wfn rfl ?_
   refine Aj hF rfl (fun hc=>?_) (fun hc=>?_)
   ·replace h:=Af h hc
    refine wpIn_skip (A0 ?_)
    exact ⟨!(Ah p0.Y (-1048576) 1048576),hF.sub kr,St.pick [0,1] (by decide) hS,h⟩
   ·replace h:=Ae h hc
    refine esr ?_
    refine rX 5 5 [(1,pb b1),(3,.bool (!(Ah p0.Size 1 10000)))] hF (oL 3 0 2 hS.e rfl rfl<|oC (fun w2 hd=>Ch p0.Size 1 10000 _ rfl _ w2 (A5 w2))<|A9) fun a w hF hx=>?_
    replace hS:=hS.later hx
    refine wfn rfl ?_
    refine Aj hF rfl (fun hc=>?_) (fun hc=>?_)
    ·replace h:=Af h hc
     refine wpIn_skip (A0 ?_)
     exact ⟨!(Ah p0.Size 1 10000),hF.sub kr,St.pick [0,1] (by decide) hS,h⟩
    ·replace h:=Ae h hc
     refine esr ?_
     refine rX 5 5 [(1,pb b1),(3,.bool (!(Ah p0.Wide 1 64)))] hF (oL 3 0 3 hS.e rfl rfl<|oC (fun w2 hd=>Ch p0.Wide 1 64 _ rfl _ w2 (A5 w2))<|A9) fun a w hF hx=>?_
     replace hS:=hS.later hx
     refine wfn rfl ?_
     refine Aj hF rfl (fun hc=>?_) (fun hc=>?_)
     ·replace h:=Af h hc
      refine wpIn_skip (A0 ?_)
      exact ⟨!(Ah p0.Wide 1 64),hF.sub kr,St.pick [0,1] (by decide) hS,h⟩
     ·replace h:=Ae h hc
      refine WI.region ?_
      refine rX 5 5 [(3,.bool (!(Ah p0.High 1 64)))] hF (oL 3 0 4 hS.e rfl rfl<|oC (fun w2 hd=>Ch p0.High 1 64 _ rfl _ w2 (A5 w2))<|A9) fun a w hF hx=>?_
      replace hS:=hS.later hx
      refine wfn rfl ?_
      exact ⟨!(Ah p0.High 1 64),hF.sub kr,St.pick [0,1] (by decide) hS,h⟩
 rintro a w ⟨c2,hF,hS,h⟩
 rw [Cq] at h
 refine Aj hF rfl (fun hc=>?_) (fun hc=>?_)
 ·replace h:=Af h hc
  refine rnB [(2,iv 3)] hF fun a hF=>?_
  refine wpIn_ret (Ai<|A6<|Ad [.tmp 2] [iv 3] hF rfl ⟨rfl,trivial⟩ ?_)
  subst h
  exact ⟨rfl,hS.ext⟩
 ·replace h:=Ae h hc
  refine wpIn_skip (Ab<|A0<|?_)
  refine rnB [(2,iv 0)] hF fun a hF=>?_
  refine wpIn_ret (Ad [.tmp 2] [iv 0] hF rfl ⟨rfl,trivial⟩ ?_)
  subst h
  exact ⟨rfl,hS.ext⟩
theorem Sa (F:Nat) (p0:(List api_Span)) (res:Bool) (h:J8 F p0=some res) (μ:Frz) (w0:World) (hm:FrzAt μ w0) {ad1:Option Addr} {cap2:Nat} (hA3:ArrM μ 2 api_Span.cells ad1 cap2 p0):Calls Tryz.prog 175 #[sv ad1 p0 cap2] w0 (fun e w=>e=.returned (.bool res)∧Ext w0 w):=by
 obtain ⟨hlow,hS⟩:=hm.init
 have hext:=Frz.ext_refl w0.heap.size μ
 rw [J8] at h
 refine Ag Tryz.func175 rfl 28 [(0,sv ad1 p0 cap2)] rfl rfl kr fun a w hw hF=>?_
 replace hS:=hS.cast hw
 clear hw
 refine qnB [] hF fun a hF=>?_
 refine D9 (fun a w=>Fr 28 [] [] a∧St w0 [fz w0 μ] w∧Hv=some res) ?_ ?_
 ·skip
  refine rnB [(5,sv ad1 p0 cap2),(6,iv (ln p0)),(7,iv 0)] hF fun a hF=>?_
  refine wpIn_block ?_
  refine Ci (fun n_ a w=>∃(a2:Int),Fr 28 [] [(5,sv ad1 p0 cap2),(6,iv (ln p0)),(7,iv a2)] a∧St w0 [fz w0 μ] w∧Dc p0 n_ a2=some res) F ⟨0,hF.sub kr,St.pick [0] (by decide) hS,h⟩ ?_
  rintro nk2 a w ⟨a2,hF,hS,h⟩
  rcases nk2 with _|nk2
  ·cases (show (none:Option Bool)=some res from h)
  obtain ⟨k2,hk2⟩:∃k,k=Dc p0 nk2:=⟨_,rfl⟩
  replace h:F3 p0 k2 a2=some res:=by rw [hk2];exact h
  rw [F3] at h
  refine qnB [(8,.bool (decide (a2<(ln p0))))] hF fun a hF=>?_
  refine Ar ?_
  refine Aj hF rfl (fun hc=>?_) (fun hc=>?_)
  ·replace h:=Af h hc
   refine wpIn_skip (A0 ?_)
   refine Ar ?_
   refine wpIn_block ?_
   refine esr ?_
   obtain ⟨a0,a4,h⟩:=A1 h
   refine qo 2 2 [(10,.agg #[iv a0.Lo,iv a0.Hi])] hF (oI 44 (hA3 _ (hS.frz (i:=0) rfl hlow)) a4<|oG 146 0 2 api_Span.cells_len (fun _ hd=>(hA3 _ ((hS.at_ hd).frz (i:=0) rfl hlow))) a4<|A9) fun a hF=>?_
   refine SK.wi (qA 146 #[iv 0,iv 0] (fun a1=>[(4,pb a1)]) hF hS fun a1 w a hF hS=>?_)
   refine SK.wi (qS 146 0 0 (.agg #[iv a0.Lo,iv a0.Hi]) #[iv a0.Lo,iv a0.Hi] hF hS rfl fun w a hF hS=>?_)
   refine wfn rfl ?_
   refine esr ?_
   obtain ⟨a5,a7,h⟩:=A1 h
   obtain ⟨a3,a8,h⟩:=A1 h
   refine qx 16 16 [(26,.bool (bif (!(Aq a0.Lo (-32768) 32767)) then true else (!(Aq a0.Hi a0.Lo a3))))] hF (oL 3 0 0 hS.e rfl rfl<|oC (fun w2 hd=>Gt a0.Lo (-32768) 32767 _ rfl _ w2 (A5 w2))<|oX (.run [⟨15,false,(!(Aq a0.Lo (-32768) 32767))⟩] (Instr.loadAt 3 (.pointer (some ⟨a1,1,none⟩))) (iv a0.Hi)) (ob1 kr (fun _ hd=>(hS.later hd).cell (i:=0) (j:=1) rfl rfl))<|oX (.run [⟨15,false,(!(Aq a0.Lo (-32768) 32767))⟩] (Instr.loadAt 3 (pb a1)) (iv a0.Lo)) (ob1 kr (fun _ hd=>(hS.later hd).cell (i:=0) (j:=0) rfl rfl))<|oX (.run [⟨15,false,(!(Aq a0.Lo (-32768) 32767))⟩] (Instr.loadAt 3 (pb a1)) (iv a0.Lo)) (ob1 kr (fun _ hd=>(hS.later hd).cell (i:=0) (j:=0) rfl rfl))<|oX (.run [⟨15,false,(!(Aq a0.Lo (-32768) 32767))⟩] (binOp .add 3 (iv a0.Lo) (iv 65536)) (iv a5)) (R2 (fun hk=>Cx a7 hk))<|oX (.run [⟨15,false,(!(Aq a0.Lo (-32768) 32767))⟩] (binOp .sub 3 (iv a5) (iv 1)) (iv a3)) (Ts (fun hk=>Cx a8 hk))<|oX (.call [⟨15,false,(!(Aq a0.Lo (-32768) 32767))⟩] 171 #[iv a0.Hi,iv a0.Lo,iv a3] (.bool (Aq a0.Hi a0.Lo a3))) (show Ob.ok _ Ext _ _ from fun hk w2 hd=>Gt a0.Hi a0.Lo a3 _ rfl _ w2 (A5 w2))<|A9) fun a w hF hx=>?_
   replace hS:=hS.later hx
   refine wfn rfl ?_
   refine Aj hF rfl (fun hc=>?_) (fun hc=>?_)
   ·replace h:=Af h hc
    refine rnB [(2,.bool false)] hF fun a hF=>?_
    refine wpIn_ret (Ai<|A6<|A6<|Ai<|A6<|Ad [.tmp 2] [.bool false] hF rfl ⟨rfl,trivial⟩ ?_)
    obtain rfl:=Ao h
    exact ⟨rfl,hS.ext⟩
   ·replace h:=Ae h hc
    refine wpIn_skip (Ab<|A0<|?_)
    refine WI.region ?_
    obtain ⟨a6,a9,h⟩:=A1 h
    refine ro 2 2 [(5,sv ad1 p0 cap2),(6,iv (ln p0)),(7,iv a6)] hF (oA 3 a9<|A9) fun a hF=>?_
    refine wfn rfl ?_
    rw [hk2] at h
    exact ⟨nk2,Nat.lt_succ_self _,a6,hF.sub kr,St.pick [1] (by decide) hS,h⟩
  ·replace h:=Ae h hc
   refine wpIn_exit (Aa<|Aa<|Av<|A0 ?_)
   exact ⟨hF.sub kr,St.pick [0] (by decide) hS,h⟩
 rintro a w ⟨hF,hS,h⟩
 rw [Hv] at h
 refine rnB [(2,.bool true)] hF fun a hF=>?_
 refine wpIn_ret (Ad [.tmp 2] [.bool true] hF rfl ⟨rfl,trivial⟩ ?_)
 obtain rfl:=Ao h
 exact ⟨rfl,hS.ext⟩
theorem U5 (F:Nat) (p0:(List Int)) (res:Bool) (h:Q6 F p0=some res) (μ:Frz) (w0:World) (hm:FrzAt μ w0) {ad1:Option Addr} {cap2:Nat} (hA3:ArrM μ 1 (fK .u8) ad1 cap2 p0):Calls Tryz.prog 37 #[sv ad1 p0 cap2] w0 (fun e w=>e=.returned (.bool res)∧Ext w0 w):=by
 obtain ⟨hlow,hS⟩:=hm.init
 have hext:=Frz.ext_refl w0.heap.size μ
 rw [Q6] at h
 refine Ag Tryz.func37 rfl 47 [(0,sv ad1 p0 cap2)] rfl rfl kr fun a w hw hF=>?_
 replace hS:=hS.cast hw
 clear hw
 refine qnB [] hF fun a hF=>?_
 refine qnB [(3,.bool true)] hF fun a hF=>?_
 refine D9 (fun a w=>∃(a5:Bool),Fr 47 [] [(0,sv ad1 p0 cap2),(3,.bool a5)] a∧St w0 [fz w0 μ] w∧Mt F p0 a5=some res) ?_ ?_
 ·skip
  refine qnB [(9,sv ad1 p0 cap2),(10,iv (ln p0)),(11,iv 0)] hF fun a hF=>?_
  refine wpIn_block ?_
  refine Ci (fun n_ a w=>∃(a4:Int) (a2:Bool),Fr 47 [] [(0,sv ad1 p0 cap2),(3,.bool a2),(9,sv ad1 p0 cap2),(10,iv (ln p0)),(11,iv a4)] a∧St w0 [fz w0 μ] w∧Kk F p0 n_ a4 a2=some res) F ⟨0,true,hF.sub kr,St.pick [0] (by decide) hS,h⟩ ?_
  rintro nk2 a w ⟨a4,a2,hF,hS,h⟩
  rcases nk2 with _|nk2
  ·cases (show (none:Option Bool)=some res from h)
  obtain ⟨k2,hk2⟩:∃k,k=Kk F p0 nk2:=⟨_,rfl⟩
  replace h:Ms F p0 k2 a4 a2=some res:=by rw [hk2];exact h
  rw [Ms] at h
  refine qnB [(12,.bool (decide (a4<(ln p0))))] hF fun a hF=>?_
  refine Ar ?_
  refine Aj hF rfl (fun hc=>?_) (fun hc=>?_)
  ·replace h:=Af h hc
   refine wpIn_skip (A0 ?_)
   refine Ar ?_
   refine wpIn_block ?_
   refine esr ?_
   obtain ⟨a3,a9,h⟩:=A1 h
   refine qo 3 3 [(5,.int .u8 a3)] hF (oI 22 (hA3 _ (hS.frz (i:=0) rfl hlow)) a9<|oE 5 0 (Bx .u8) (fun _ hd=>(hA3 _ ((hS.at_ hd).frz (i:=0) rfl hlow))) a9 rfl<|A9) fun a hF=>?_
   refine wfn rfl ?_
   refine WI.region ?_
   refine rn 10 10 [(0,sv ad1 p0 cap2),(3,.bool (bif (bif a2 then (decide (a3≥128)) else false) then (decide (a3≤254)) else false)),(9,sv ad1 p0 cap2),(10,iv (ln p0)),(11,iv a4)] hF fun a hF=>?_
   refine WI.fin rfl (Ab<|A0<|?_)
   refine WI.region ?_
   obtain ⟨aC,aG,h⟩:=A1 h
   refine ro 2 2 [(0,sv ad1 p0 cap2),(3,.bool (bif (bif a2 then (decide (a3≥128)) else false) then (decide (a3≤254)) else false)),(9,sv ad1 p0 cap2),(10,iv (ln p0)),(11,iv aC)] hF (oA 3 aG<|A9) fun a hF=>?_
   refine wfn rfl ?_
   rw [hk2] at h
   exact ⟨nk2,Nat.lt_succ_self _,aC,bif (bif a2 then (decide (a3≥128)) else false) then (decide (a3≤254)) else false,hF.sub kr,St.pick [0] (by decide) hS,h⟩
  ·replace h:=Ae h hc
   refine wpIn_exit (Aa<|Aa<|Av<|A0 ?_)
   exact ⟨a2,hF.sub kr,St.pick [0] (by decide) hS,h⟩
 rintro a w ⟨a5,hF,hS,h⟩
 rw [Mt] at h
 refine esr ?_
 refine qn 2 2 [(26,.agg #[sv ad1 p0 cap2])] hF fun a hF=>?_
 refine SK.wi (qB 125 (.agg #[sv ad1 p0 cap2]) #[sv ad1 p0 cap2] (fun a1=>[(27,pb a1)]) hF hS fun a1 w a hF hS=>?_)
 refine qn 1 4 [(6,pb a1)] hF fun a hF=>?_
 refine wfn rfl ?_
 refine esr ?_
 refine qn 1 1 [(29,pb a1)] hF fun a hF=>?_
 obtain ⟨a0,aH,h⟩:=A1 h
 replace hS:=hS.s1
 refine SK.wi (qR (fun aB=>[(30,aB)]) hF (J9 F _ _ aH μ w0 w _ hlow hA3 hS) ?_)
 rintro aB w a ⟨ν18,aD,aE,aA,hlow,rfl,aI,hS⟩ hF
 replace hext:=Frz.ext_trans hext aA
 replace hA3:=hA3.mono aA.1
 refine qn 5 7 [(7,iv a0.1),(8,.bool a0.2.1)] hF fun a hF=>?_
 refine wfn rfl ?_
 refine esr ?_
 refine rn 2 2 [(6,pb a1),(7,iv a0.1),(8,.bool a0.2.1),(34,.bool a5)] hF fun a hF=>?_
 rcases Bool.eq_false_or_eq_true (a5) with a6|a6
 ·replace h:=Af h a6
  rw [a6] at hF
  refine Cr 3 [(6,pb a1),(7,iv a0.1),(34,.bool true),(35,undef)] hF kr ⟨kr⟩ ⟨kr⟩ rfl fun a hF=>?_
  refine Cr 4 [(6,pb a1),(7,iv a0.1),(34,.bool true),(36,undef)] hF kr ⟨kr⟩ ⟨kr⟩ rfl fun a hF=>?_
  refine Py 5 [(7,iv a0.1),(34,.bool true),(36,undef),(37,undef)] hF kr ⟨kr⟩ ⟨kr⟩ rfl fun a hF=>?_
  refine Py 6 [(7,iv a0.1),(34,.bool true),(36,undef),(38,undef)] hF kr ⟨kr⟩ ⟨kr⟩ rfl fun a hF=>?_
  refine Py 7 [(7,iv a0.1),(34,.bool true),(36,undef),(39,undef)] hF kr ⟨kr⟩ ⟨kr⟩ rfl fun a hF=>?_
  refine Py 8 [(7,iv a0.1),(34,.bool true),(36,undef),(40,undef)] hF kr ⟨kr⟩ ⟨kr⟩ rfl fun a hF=>?_
  refine Py 9 [(7,iv a0.1),(34,.bool true),(36,undef),(41,undef)] hF kr ⟨kr⟩ ⟨kr⟩ rfl fun a hF=>?_
  refine Py 10 [(34,.bool true),(36,undef),(41,undef),(42,undef)] hF kr ⟨kr⟩ ⟨kr⟩ rfl fun a hF=>?_
  refine Py 11 [(34,.bool true),(36,undef),(41,undef),(43,undef)] hF kr ⟨kr⟩ ⟨kr⟩ rfl fun a hF=>?_
  refine Py 12 [(34,.bool true),(36,undef),(44,undef)] hF kr ⟨kr⟩ ⟨kr⟩ rfl fun a hF=>?_
  refine Cr 13 [(34,.bool true),(45,undef)] hF kr ⟨kr⟩ ⟨kr⟩ rfl fun a hF=>?_
  refine rn 2 15 [(2,.bool true)] hF fun a hF=>?_
  refine wfn rfl ?_
  refine wpIn_ret (Ad [.tmp 2] [.bool true] hF rfl ⟨rfl,trivial⟩ ?_)
  obtain rfl:=Ao h
  exact ⟨rfl,hS.ext⟩
 ·replace h:=Ae h a6
  rw [a6] at hF
  refine A14 (n:=2) (obs:=[]) 4 [(6,⟨[],pb a1⟩),(7,⟨[],iv a0.1⟩),(34,⟨[],.bool false⟩),(36,⟨[⟨34,false,false⟩],.bool a0.2.1⟩)] hF kr A9 ⟨kr⟩ kr rfl fun a hF=>?_
  replace hF:Fr 47 [] [(6,pb a1),(7,iv a0.1),(34,.bool false),(36,.bool a0.2.1)] a:=hF
  rcases Bool.eq_false_or_eq_true (a0.2.1) with a7|a7
  ·replace h:=Af h a7
   rw [a7] at hF
   obtain ⟨a8,aF,h⟩:=A1 h
   refine ro 11 15 [(2,.bool (decide ((ln a0.2.2.b)<a8)))] hF (oX (.run [⟨36,true,true⟩] (Instr.loadAt 22 (pb a1)) (sv aD a0.2.2.b aE)) (ob1 kr (fun _ hd=>(hS.at_ hd).cell (i:=1) (j:=0) rfl rfl))<|oX (.run [⟨36,true,true⟩] (binOp .add 3 (iv a0.1) (iv 5)) (iv a8)) (R2 (fun _=>aF))<|A9) fun a hF=>?_
   refine wfn rfl ?_
   refine wpIn_ret (Ad [.tmp 2] [.bool (decide ((ln a0.2.2.b)<a8))] hF rfl ⟨rfl,trivial⟩ ?_)
   obtain rfl:=Ao h
   exact ⟨rfl,hS.ext⟩
  ·replace h:=Ae h a7
   rw [a7] at hF
   refine Cr 5 [(7,iv a0.1),(34,.bool false),(36,.bool false),(37,undef)] hF kr ⟨kr⟩ ⟨kr⟩ rfl fun a hF=>?_
   refine Cr 6 [(7,iv a0.1),(34,.bool false),(36,.bool false),(38,undef)] hF kr ⟨kr⟩ ⟨kr⟩ rfl fun a hF=>?_
   refine Cr 7 [(7,iv a0.1),(34,.bool false),(36,.bool false),(39,undef)] hF kr ⟨kr⟩ ⟨kr⟩ rfl fun a hF=>?_
   refine Cr 8 [(7,iv a0.1),(34,.bool false),(36,.bool false),(40,undef)] hF kr ⟨kr⟩ ⟨kr⟩ rfl fun a hF=>?_
   refine Cr 9 [(7,iv a0.1),(34,.bool false),(36,.bool false),(41,undef)] hF kr ⟨kr⟩ ⟨kr⟩ rfl fun a hF=>?_
   refine Cr 10 [(34,.bool false),(36,.bool false),(41,undef),(42,undef)] hF kr ⟨kr⟩ ⟨kr⟩ rfl fun a hF=>?_
   refine Cr 11 [(34,.bool false),(36,.bool false),(41,undef),(43,undef)] hF kr ⟨kr⟩ ⟨kr⟩ rfl fun a hF=>?_
   refine Cr 12 [(34,.bool false),(36,.bool false),(44,undef)] hF kr ⟨kr⟩ ⟨kr⟩ rfl fun a hF=>?_
   refine rn 3 15 [(2,.bool false)] hF fun a hF=>?_
   refine wfn rfl ?_
   refine wpIn_ret (Ad [.tmp 2] [.bool false] hF rfl ⟨rfl,trivial⟩ ?_)
   obtain rfl:=Ao h
   exact ⟨rfl,hS.ext⟩
theorem Gn (F:Nat) (p0:volume_writer) (p1:ByteArray) (res:volume_writer) (h:D4 F p0 p1=some res) (μ:Frz) (w0 w1:World) (T_:List Res) (hlow:B4 w0 μ) {cb0:Nat} {ad1:Option Addr} {cap2:Nat} (hS:St w0 (fz w0 μ::blk cb0 138 #[sv ad1 p0.b cap2]::arrT 5 1 (fK .u8) ad1 p0.b.length cap2 p0.b::T_) w1):Bj Tryz.prog 161 #[pb cb0,.string p1] w1 (fun e w=>∃(ν_:Frz) (a3:Option Addr) (a4:Nat),μ.ext w0.heap.size ν_∧B4 w0 ν_∧e=(.tuple #[])∧St w0 (fz w0 ν_::blk cb0 138 #[sv a3 res.b a4]::arrT 5 1 (fK .u8) a3 res.b.length a4 res.b::T_) w):=by
 rw [D4] at h
 have hext:=Frz.ext_refl w0.heap.size μ
 refine Ag Tryz.func161 rfl 18 [(0,pb cb0),(1,.string p1)] rfl rfl kr fun a w hw hF=>?_
 replace hS:=hS.cast hw
 clear hw
 refine esr ?_
 refine qn 3 3 [(4,pb cb0),(6,iv ((p1.size:Nat):Int))] hF fun a hF=>?_
 refine SK.wi (Fe (e:=3) (sz:=1) (f:=fI) (t:=69) (len:=1) (fun b3=>[(0,pb cb0),(1,.string p1),(4,pb cb0),(7,sb b3 1)]) #[(0,iv ((p1.size:Nat):Int))] #[iv ((p1.size:Nat):Int)] ([((p1.size:Nat):Int)]) hF hS kr ⟨kr⟩ kr Fu rfl rfl kr (fun _=>⟨kr⟩) fun b3 w a hF hS=>?_)
 obtain ⟨ν4,hx5,hlow,hS,hz6⟩:=hS.freeze (i:=1) (j:=0) rfl rfl (by decide) hlow
 replace hext:=Frz.ext_trans hext hx5
 have hA7:=ArrM.of_arr hz6
 obtain ⟨y8,hy8,h⟩:=A1 h
 refine SK.wi (rR (fun a9=>[(0,pb cb0),(1,.string p1)]) hF (As F _ _ _ hy8 ν4 w0 w _ hlow hA7 hS) ?_)
 rintro a9 w a ⟨ν9,a6,a7,a5,hlow,rfl,hS⟩ hF
 replace hext:=Frz.ext_trans hext a5
 replace hA7:=hA7.mono a5.1
 refine wfn rfl ?_
 refine WI.region ?_
 refine ro 6 6 [(9,pb cb0),(13,sv a6 y8.b a7),(14,.string p1)] hF (oL 22 1 0 hS.i rfl rfl<|A9) fun a hF=>?_
 obtain ⟨a2,a8,h⟩:=A1 h
 refine SK.wi (A27 (t:=22) (xt:=9) (ty:=22) (bytes:=1) (l:=y8.b) (fun a0 a1=>[(9,pb cb0),(15,sv a0 a2 a1)]) 2 hF hS rfl kr ⟨kr⟩ kr kr a8 (fun _ _=>⟨kr⟩) fun a0 a1 w a hF hS=>?_)
 refine rn 2 9 [(15,sv a0 a2 a1),(17,pb cb0)] hF fun a hF=>?_
 refine SK.wi (Kc (t:=22) [] 1 0 (sv a0 a2 a1) #[sv a0 a2 a1] hF hS rfl kr ⟨kr⟩ kr kr kr kr ⟨kr⟩ fun w a hF hS=>?_)
 refine WI.fin rfl ?_
 refine Hb hF rfl ?_
 obtain rfl:=Ao h
 replace hS:=hS
 exact ⟨_,rfl,ν9,a0,a1,hext,hlow,rfl,hS⟩
theorem Ff (F:Nat) (p0:volume_writer) (p1:(List Int)) (res:volume_writer) (h:Ce F p0 p1=some res) (μ:Frz) (w0 w1:World) (T_:List Res) (hlow:B4 w0 μ) {cb0:Nat} {ad1:Option Addr} {cap2:Nat} {ad3:Option Addr} {cap4:Nat} (hA5:ArrM μ 1 fI ad3 cap4 p1) (hS:St w0 (fz w0 μ::blk cb0 138 #[sv ad1 p0.b cap2]::arrT 5 1 (fK .u8) ad1 p0.b.length cap2 p0.b::T_) w1):Bj Tryz.prog 168 #[pb cb0,sv ad3 p1 cap4] w1 (fun e w=>∃(ν_:Frz) (aH:Option Addr) (aK:Nat),μ.ext w0.heap.size ν_∧B4 w0 ν_∧e=(.tuple #[])∧St w0 (fz w0 ν_::blk cb0 138 #[sv aH res.b aK]::arrT 5 1 (fK .u8) aH res.b.length aK res.b::T_) w):=by
 rw [Ce] at h
 have hext:=Frz.ext_refl w0.heap.size μ
 refine Ag Tryz.func168 rfl 26 [(0,pb cb0),(1,sv ad3 p1 cap4)] rfl rfl kr fun a w hw hF=>?_
 replace hS:=hS.cast hw
 clear hw
 refine qnB [(6,sv ad3 p1 cap4),(7,iv (ln p1)),(8,iv 0)] hF fun a hF=>?_
 refine wpIn_block ?_
 have aL:=Frz.le_refl μ
 refine Ci (fun n_ a w=>∃(a3:(List Int)) (a2:Int) (ν130:Frz) (a7:Option Addr) (a9:Nat),Fr 26 [] [(0,pb cb0),(6,sv ad3 p1 cap4),(7,iv (ln p1)),(8,iv a2)] a∧St w0 (arrT 5 1 (fK .u8) a7 a3.length a9 a3::fz w0 ν130::blk cb0 138 #[sv a7 a3 a9]::T_) w∧(μ.le ν130)∧(μ.ext w0.heap.size ν130)∧(B4 w0 ν130)∧Bf F p1 n_ a3 a2=some res) F ⟨p0.b,0,μ,ad1,cap2,hF.sub kr,hS.s2,aL,hext,hlow,h⟩ ?_
 clear aL
 rintro nk1 a w ⟨a3,a2,ν130,a7,a9,hF,hS,a0,hext,hlow,h⟩
 rcases nk1 with _|nk1
 ·cases (show (none:Option volume_writer)=some res from h)
 replace hA5:=hA5.mono a0
 obtain ⟨k1,hk1⟩:∃k,k=Bf F p1 nk1:=⟨_,rfl⟩
 replace h:E2 F p1 k1 a3 a2=some res:=by rw [hk1];exact h
 rw [E2] at h
 refine qnB [(9,.bool (decide (a2<(ln p1))))] hF fun a hF=>?_
 refine Ar ?_
 refine Aj hF rfl (fun hc=>?_) (fun hc=>?_)
 ·replace h:=Af h hc
  refine wpIn_skip (A0 ?_)
  have a1:=Frz.le_refl ν130
  refine D9 (fun a w=>∃(a4:(List Int)) (ν163:Frz) (a8:Option Addr) (aA:Nat),Fr 26 [] [(0,pb cb0),(6,sv ad3 p1 cap4),(7,iv (ln p1)),(8,iv a2)] a∧St w0 (arrT 5 1 (fK .u8) a8 a4.length aA a4::fz w0 ν163::blk cb0 138 #[sv a8 a4 aA]::T_) w∧(ν130.le ν163)∧(μ.ext w0.heap.size ν163)∧(B4 w0 ν163)∧C7 a2 k1 a4=some res) ?_ ?_
  ·skip
   refine wpIn_block ?_
   refine esr ?_
   obtain ⟨aO,aN,h⟩:=A1 h
   refine qo 3 3 [(5,iv aO)] hF (oI 69 (hA5 _ (hS.frz (i:=1) rfl hlow)) aN<|oE 3 0 Fu (fun _ hd=>(hA5 _ ((hS.at_ hd).frz (i:=1) rfl hlow))) aN rfl<|A9) fun a hF=>?_
   refine wfn rfl ?_
   refine qnB [(13,.bool (decide (aO<0)))] hF fun a hF=>?_
   refine Aj hF rfl (fun hc=>?_) (fun hc=>?_)
   ·replace h:=Af h hc
    refine WI.region ?_
    obtain ⟨b6,aV,h⟩:=A1 h
    obtain ⟨aD,aW,h⟩:=A1 h
    refine qo 4 4 [(14,pb cb0),(17,iv aD)] hF (oM 3 aV<|oS 3 aW<|A9) fun a hF=>?_
    refine SK.wi (Fe (e:=3) (sz:=1) (f:=fI) (t:=69) (len:=1) (fun aI=>[(0,pb cb0),(6,sv ad3 p1 cap4),(7,iv (ln p1)),(8,iv a2),(14,pb cb0),(18,sb aI 1)]) #[(0,iv aD)] #[iv aD] ([aD]) hF hS kr ⟨kr⟩ kr Fu rfl rfl kr (fun _=>⟨kr⟩) fun aI w a hF hS=>?_)
    obtain ⟨ν174,aB,hlow,hS,b0⟩:=hS.freeze (i:=2) (j:=0) rfl rfl (by decide) hlow
    replace hA5:=hA5.mono aB.1
    replace a0:=Frz.le_trans a0 aB.1
    replace a1:=Frz.le_trans a1 aB.1
    replace hext:=Frz.ext_trans hext aB
    have aF:=ArrM.of_arr b0
    obtain ⟨b4,aY,h⟩:=A1 h
    replace hS:=hS.s2.s2
    refine SK.wi (rR (fun b2=>[(0,pb cb0),(6,sv ad3 p1 cap4),(7,iv (ln p1)),(8,iv a2)]) hF (As F _ _ _ aY ν174 w0 w _ hlow aF hS) ?_)
    rintro b2 w a ⟨ν179,aQ,aS,a5,hlow,rfl,hS⟩ hF
    replace hext:=Frz.ext_trans hext a5
    replace hA5:=hA5.mono a5.1
    replace aF:=aF.mono a5.1
    replace a0:=Frz.le_trans a0 a5.1
    replace a1:=Frz.le_trans a1 a5.1
    refine WI.fin rfl (Ab<|A0<|?_)
    exact ⟨b4.b,ν179,aQ,aS,hF.sub kr,hS.s2,a1,hext,hlow,h⟩
   ·replace h:=Ae h hc
    refine WI.region ?_
    obtain ⟨aE,aX,h⟩:=A1 h
    refine qo 3 3 [(20,pb cb0),(22,iv aE)] hF (oM 3 aX<|A9) fun a hF=>?_
    refine SK.wi (Fe (e:=3) (sz:=1) (f:=fI) (t:=69) (len:=1) (fun aJ=>[(0,pb cb0),(6,sv ad3 p1 cap4),(7,iv (ln p1)),(8,iv a2),(20,pb cb0),(23,sb aJ 1)]) #[(0,iv aE)] #[iv aE] ([aE]) hF hS kr ⟨kr⟩ kr Fu rfl rfl kr (fun _=>⟨kr⟩) fun aJ w a hF hS=>?_)
    obtain ⟨ν186,aC,hlow,hS,b1⟩:=hS.freeze (i:=2) (j:=0) rfl rfl (by decide) hlow
    replace hA5:=hA5.mono aC.1
    replace a0:=Frz.le_trans a0 aC.1
    replace a1:=Frz.le_trans a1 aC.1
    replace hext:=Frz.ext_trans hext aC
    have aG:=ArrM.of_arr b1
    obtain ⟨b5,aZ,h⟩:=A1 h
    replace hS:=hS.s2.s2
    refine SK.wi (rR (fun b3=>[(0,pb cb0),(6,sv ad3 p1 cap4),(7,iv (ln p1)),(8,iv a2)]) hF (As F _ _ _ aZ ν186 w0 w _ hlow aG hS) ?_)
    rintro b3 w a ⟨ν191,aR,aT,a6,hlow,rfl,hS⟩ hF
    replace hext:=Frz.ext_trans hext a6
    replace hA5:=hA5.mono a6.1
    replace aG:=aG.mono a6.1
    replace a0:=Frz.le_trans a0 a6.1
    replace a1:=Frz.le_trans a1 a6.1
    refine WI.fin rfl (Ab<|A0<|?_)
    exact ⟨b5.b,ν191,aR,aT,hF.sub kr,hS.s2,a1,hext,hlow,h⟩
  clear a1
  rintro a w ⟨a4,ν163,a8,aA,hF,hS,aM,hext,hlow,h⟩
  replace hA5:=hA5.mono aM
  replace a0:=Frz.le_trans a0 aM
  rw [C7] at h
  refine WI.region ?_
  obtain ⟨aP,aU,h⟩:=A1 h
  refine ro 2 2 [(0,pb cb0),(6,sv ad3 p1 cap4),(7,iv (ln p1)),(8,iv aP)] hF (oA 3 aU<|A9) fun a hF=>?_
  refine wfn rfl ?_
  rw [hk1] at h
  exact ⟨nk1,Nat.lt_succ_self _,a4,aP,ν163,a8,aA,hF.sub kr,hS,a0,hext,hlow,h⟩
 ·replace h:=Ae h hc
  refine wpIn_exit (Aa<|Aa<|Av<|?_)
  refine Hb hF rfl ?_
  obtain rfl:=Ao h
  replace hS:=hS.s2.s2
  exact ⟨_,rfl,ν130,a7,a9,hext,hlow,rfl,hS⟩
theorem R7 (F:Nat) (p0:api_Site) (res:Int) (h:Gu F p0=some res) (μ:Frz) (w0:World) (hm:FrzAt μ w0):Calls Tryz.prog 79 #[p0.ag] w0 (fun e w=>e=.returned (iv res)∧Ext w0 w):=by
 obtain ⟨hlow,hS⟩:=hm.init
 have hext:=Frz.ext_refl w0.heap.size μ
 rw [Gu] at h
 refine Ag Tryz.func79 rfl 47 [(0,p0.ag)] rfl rfl kr fun a w hw hF=>?_
 replace hS:=hS.cast hw
 clear hw
 refine esr ?_
 refine SK.wi (J6 (t:=38) (fun b1=>[(1,pb b1)]) (p0.ag) p0.ar hF hS kr ⟨kr⟩ kr (fun _=>⟨kr⟩) fun b1 w a hF hS=>?_)
 refine rn 1 2 [(1,pb b1)] hF fun a hF=>?_
 refine wfn rfl ?_
 refine Ar ?_
 refine esr ?_
 obtain ⟨y2,hy2,h⟩:=A1 h
 refine qx 4 4 [(6,.bool (!y2))] hF (oL 9 0 0 hS.e rfl rfl<|oC (fun w2 hd=>Qq F p0.Name _ hy2 _ w2 (A5 w2))<|A9) fun a w hF hx=>?_
 replace hS:=hS.later hx
 refine wfn rfl ?_
 refine Aj hF rfl (fun hc=>?_) (fun hc=>?_)
 ·replace h:=Af h hc
  refine rnB [(2,iv 10)] hF fun a hF=>?_
  refine wpIn_ret (A6<|Ad [.tmp 2] [iv 10] hF rfl ⟨rfl,trivial⟩ ?_)
  obtain rfl:=Ao h
  exact ⟨rfl,hS.ext⟩
 ·replace h:=Ae h hc
  refine wpIn_skip (A0 ?_)
  refine Ar ?_
  refine esr ?_
  refine rX 40 40 [(46,.bool (bif (bif (bif (bif (bif (bif (!(A8 p0.X (-1048576) 1048576)) then true else (!(A8 p0.Y (-1048576) 1048576))) then true else (!(A8 p0.Z 0 20000))) then true else (!(A8 p0.Rose 1 90))) then true else (!(A8 p0.Gates 1 200))) then true else (!(A8 p0.Step 50 2000))) then true else (!(A8 p0.Width 0 8))))] hF (oL 3 0 1 hS.e rfl rfl<|oC (fun w2 hd=>C1 p0.X (-1048576) 1048576 _ rfl _ w2 (A5 w2))<|oX (.run [⟨11,false,(!(A8 p0.X (-1048576) 1048576))⟩] (Instr.loadAt 3 (.pointer (some ⟨b1,2,none⟩))) (iv p0.Y)) (ob1 kr (fun _ hd=>(hS.later hd).cell (i:=0) (j:=2) rfl rfl))<|oX (.call [⟨11,false,(!(A8 p0.X (-1048576) 1048576))⟩] 46 #[iv p0.Y,iv (-1048576),iv 1048576] (.bool (A8 p0.Y (-1048576) 1048576))) (show Ob.ok _ Ext _ _ from fun hk w2 hd=>C1 p0.Y (-1048576) 1048576 _ rfl _ w2 (A5 w2))<|oX (.run [⟨17,false,(bif (!(A8 p0.X (-1048576) 1048576)) then true else (!(A8 p0.Y (-1048576) 1048576)))⟩] (Instr.loadAt 3 (.pointer (some ⟨b1,3,none⟩))) (iv p0.Z)) (ob1 kr (fun _ hd=>(hS.later hd).cell (i:=0) (j:=3) rfl rfl))<|oX (.call [⟨17,false,(bif (!(A8 p0.X (-1048576) 1048576)) then true else (!(A8 p0.Y (-1048576) 1048576)))⟩] 46 #[iv p0.Z,iv 0,iv 20000] (.bool (A8 p0.Z 0 20000))) (show Ob.ok _ Ext _ _ from fun hk w2 hd=>C1 p0.Z 0 20000 _ rfl _ w2 (A5 w2))<|oX (.run [⟨23,false,(bif (bif (!(A8 p0.X (-1048576) 1048576)) then true else (!(A8 p0.Y (-1048576) 1048576))) then true else (!(A8 p0.Z 0 20000)))⟩] (Instr.loadAt 3 (.pointer (some ⟨b1,4,none⟩))) (iv p0.Rose)) (ob1 kr (fun _ hd=>(hS.later hd).cell (i:=0) (j:=4) rfl rfl))<|oX (.call [⟨23,false,(bif (bif (!(A8 p0.X (-1048576) 1048576)) then true else (!(A8 p0.Y (-1048576) 1048576))) then true else (!(A8 p0.Z 0 20000)))⟩] 46 #[iv p0.Rose,iv 1,iv 90] (.bool (A8 p0.Rose 1 90))) (show Ob.ok _ Ext _ _ from fun hk w2 hd=>C1 p0.Rose 1 90 _ rfl _ w2 (A5 w2))<|oX (.run [⟨29,false,(bif (bif (bif (!(A8 p0.X (-1048576) 1048576)) then true else (!(A8 p0.Y (-1048576) 1048576))) then true else (!(A8 p0.Z 0 20000))) then true else (!(A8 p0.Rose 1 90)))⟩] (Instr.loadAt 3 (.pointer (some ⟨b1,5,none⟩))) (iv p0.Gates)) (ob1 kr (fun _ hd=>(hS.later hd).cell (i:=0) (j:=5) rfl rfl))<|oX (.call [⟨29,false,(bif (bif (bif (!(A8 p0.X (-1048576) 1048576)) then true else (!(A8 p0.Y (-1048576) 1048576))) then true else (!(A8 p0.Z 0 20000))) then true else (!(A8 p0.Rose 1 90)))⟩] 46 #[iv p0.Gates,iv 1,iv 200] (.bool (A8 p0.Gates 1 200))) (show Ob.ok _ Ext _ _ from fun hk w2 hd=>C1 p0.Gates 1 200 _ rfl _ w2 (A5 w2))<|oX (.run [⟨35,false,(bif (bif (bif (bif (!(A8 p0.X (-1048576) 1048576)) then true else (!(A8 p0.Y (-1048576) 1048576))) then true else (!(A8 p0.Z 0 20000))) then true else (!(A8 p0.Rose 1 90))) then true else (!(A8 p0.Gates 1 200)))⟩] (Instr.loadAt 3 (.pointer (some ⟨b1,6,none⟩))) (iv p0.Step)) (ob1 kr (fun _ hd=>(hS.later hd).cell (i:=0) (j:=6) rfl rfl))<|oX (.call [⟨35,false,(bif (bif (bif (bif (!(A8 p0.X (-1048576) 1048576)) then true else (!(A8 p0.Y (-1048576) 1048576))) then true else (!(A8 p0.Z 0 20000))) then true else (!(A8 p0.Rose 1 90))) then true else (!(A8 p0.Gates 1 200)))⟩] 46 #[iv p0.Step,iv 50,iv 2000] (.bool (A8 p0.Step 50 2000))) (show Ob.ok _ Ext _ _ from fun hk w2 hd=>C1 p0.Step 50 2000 _ rfl _ w2 (A5 w2))<|oX (.run [⟨41,false,(bif (bif (bif (bif (bif (!(A8 p0.X (-1048576) 1048576)) then true else (!(A8 p0.Y (-1048576) 1048576))) then true else (!(A8 p0.Z 0 20000))) then true else (!(A8 p0.Rose 1 90))) then true else (!(A8 p0.Gates 1 200))) then true else (!(A8 p0.Step 50 2000)))⟩] (Instr.loadAt 3 (.pointer (some ⟨b1,7,none⟩))) (iv p0.Width)) (ob1 kr (fun _ hd=>(hS.later hd).cell (i:=0) (j:=7) rfl rfl))<|oX (.call [⟨41,false,(bif (bif (bif (bif (bif (!(A8 p0.X (-1048576) 1048576)) then true else (!(A8 p0.Y (-1048576) 1048576))) then true else (!(A8 p0.Z 0 20000))) then true else (!(A8 p0.Rose 1 90))) then true else (!(A8 p0.Gates 1 200))) then true else (!(A8 p0.Step 50 2000)))⟩] 46 #[iv p0.Width,iv 0,iv 8] (.bool (A8 p0.Width 0 8))) (show Ob.ok _ Ext _ _ from fun hk w2 hd=>C1 p0.Width 0 8 _ rfl _ w2 (A5 w2))<|A9) fun a w hF hx=>?_
  replace hS:=hS.later hx
  refine wfn rfl ?_
  refine Aj hF rfl (fun hc=>?_) (fun hc=>?_)
  ·replace h:=Af h hc
   refine rnB [(2,iv 3)] hF fun a hF=>?_
   refine wpIn_ret (A6<|Ad [.tmp 2] [iv 3] hF rfl ⟨rfl,trivial⟩ ?_)
   obtain rfl:=Ao h
   exact ⟨rfl,hS.ext⟩
  ·replace h:=Ae h hc
   refine wpIn_skip (A0 ?_)
   refine rnB [(2,iv 0)] hF fun a hF=>?_
   refine wpIn_ret (Ad [.tmp 2] [iv 0] hF rfl ⟨rfl,trivial⟩ ?_)
   obtain rfl:=Ao h
   exact ⟨rfl,hS.ext⟩
theorem Mi (F:Nat) (p0:api_Span) (res:Bool) (h:Hg F p0=some res) (μ:Frz) (w0:World) (hm:FrzAt μ w0):Calls Tryz.prog 110 #[.agg #[iv p0.Lo,iv p0.Hi]] w0 (fun e w=>e=.returned (.bool res)∧Ext w0 w):=by
 obtain ⟨hlow,hS⟩:=hm.init
 have hext:=Frz.ext_refl w0.heap.size μ
 rw [Hg] at h
 refine Ag Tryz.func110 rfl 17 [(0,.agg #[iv p0.Lo,iv p0.Hi])] rfl rfl kr fun a w hw hF=>?_
 replace hS:=hS.cast hw
 clear hw
 refine esr ?_
 refine SK.wi (J6 (t:=146) (fun b1=>[(1,pb b1)]) (.agg #[iv p0.Lo,iv p0.Hi]) #[iv p0.Lo,iv p0.Hi] hF hS kr ⟨kr⟩ kr (fun _=>⟨kr⟩) fun b1 w a hF hS=>?_)
 refine rn 1 2 [(1,pb b1)] hF fun a hF=>?_
 refine wfn rfl ?_
 refine esr ?_
 obtain ⟨x2,hx2,h⟩:=A1 h
 obtain ⟨x3,hx3,h⟩:=A1 h
 refine rX 15 15 [(2,.bool (bif (A8 p0.Lo (-32768) 32767) then (A8 p0.Hi p0.Lo x3) else false))] hF (oL 3 0 0 hS.e rfl rfl<|oC (fun w2 hd=>C1 p0.Lo (-32768) 32767 _ rfl _ w2 (A5 w2))<|oX (.run [⟨6,true,(A8 p0.Lo (-32768) 32767)⟩] (Instr.loadAt 3 (.pointer (some ⟨b1,1,none⟩))) (iv p0.Hi)) (ob1 kr (fun _ hd=>(hS.later hd).cell (i:=0) (j:=1) rfl rfl))<|oX (.run [⟨6,true,(A8 p0.Lo (-32768) 32767)⟩] (Instr.loadAt 3 (pb b1)) (iv p0.Lo)) (ob1 kr (fun _ hd=>(hS.later hd).cell (i:=0) (j:=0) rfl rfl))<|oX (.run [⟨6,true,(A8 p0.Lo (-32768) 32767)⟩] (Instr.loadAt 3 (pb b1)) (iv p0.Lo)) (ob1 kr (fun _ hd=>(hS.later hd).cell (i:=0) (j:=0) rfl rfl))<|oX (.run [⟨6,true,(A8 p0.Lo (-32768) 32767)⟩] (binOp .add 3 (iv p0.Lo) (iv 65536)) (iv x2)) (R2 (fun hk=>Cx hx2 hk))<|oX (.run [⟨6,true,(A8 p0.Lo (-32768) 32767)⟩] (binOp .sub 3 (iv x2) (iv 1)) (iv x3)) (Ts (fun hk=>Cx hx3 hk))<|oX (.call [⟨6,true,(A8 p0.Lo (-32768) 32767)⟩] 46 #[iv p0.Hi,iv p0.Lo,iv x3] (.bool (A8 p0.Hi p0.Lo x3))) (show Ob.ok _ Ext _ _ from fun hk w2 hd=>C1 p0.Hi p0.Lo x3 _ rfl _ w2 (A5 w2))<|A9) fun a w hF hx=>?_
 replace hS:=hS.later hx
 refine wfn rfl ?_
 refine wpIn_ret (Ad [.tmp 2] [.bool (bif (A8 p0.Lo (-32768) 32767) then (A8 p0.Hi p0.Lo x3) else false)] hF rfl ⟨rfl,trivial⟩ ?_)
 obtain rfl:=Ao h
 exact ⟨rfl,hS.ext⟩
theorem R6 (p0:api_Grid) (res:Int) (h:Cz p0=res) (μ:Frz) (w0:World) (hm:FrzAt μ w0):Calls Tryz.prog 102 #[p0.ag] w0 (fun e w=>e=.returned (iv res)∧Ext w0 w):=by
 obtain ⟨hlow,hS⟩:=hm.init
 have hext:=Frz.ext_refl w0.heap.size μ
 rw [Cz] at h
 refine Ag Tryz.func102 rfl 31 [(0,p0.ag)] rfl rfl kr fun a w hw hF=>?_
 replace hS:=hS.cast hw
 clear hw
 refine esr ?_
 refine SK.wi (J6 (t:=43) (fun b1=>[(1,pb b1)]) (p0.ag) p0.ar hF hS kr ⟨kr⟩ kr (fun _=>⟨kr⟩) fun b1 w a hF hS=>?_)
 refine rn 1 2 [(1,pb b1)] hF fun a hF=>?_
 refine wfn rfl ?_
 refine Ar ?_
 refine esr ?_
 refine rX 28 28 [(30,.bool (bif (bif (bif (bif (!(A8 p0.X (-1048576) 1048576)) then true else (!(A8 p0.Y (-1048576) 1048576))) then true else (!(A8 p0.Size 1 10000))) then true else (!(A8 p0.Wide 1 64))) then true else (!(A8 p0.High 1 64))))] hF (oL 3 0 0 hS.e rfl rfl<|oC (fun w2 hd=>C1 p0.X (-1048576) 1048576 _ rfl _ w2 (A5 w2))<|oX (.run [⟨7,false,(!(A8 p0.X (-1048576) 1048576))⟩] (Instr.loadAt 3 (.pointer (some ⟨b1,1,none⟩))) (iv p0.Y)) (ob1 kr (fun _ hd=>(hS.later hd).cell (i:=0) (j:=1) rfl rfl))<|oX (.call [⟨7,false,(!(A8 p0.X (-1048576) 1048576))⟩] 46 #[iv p0.Y,iv (-1048576),iv 1048576] (.bool (A8 p0.Y (-1048576) 1048576))) (show Ob.ok _ Ext _ _ from fun hk w2 hd=>C1 p0.Y (-1048576) 1048576 _ rfl _ w2 (A5 w2))<|oX (.run [⟨13,false,(bif (!(A8 p0.X (-1048576) 1048576)) then true else (!(A8 p0.Y (-1048576) 1048576)))⟩] (Instr.loadAt 3 (.pointer (some ⟨b1,2,none⟩))) (iv p0.Size)) (ob1 kr (fun _ hd=>(hS.later hd).cell (i:=0) (j:=2) rfl rfl))<|oX (.call [⟨13,false,(bif (!(A8 p0.X (-1048576) 1048576)) then true else (!(A8 p0.Y (-1048576) 1048576)))⟩] 46 #[iv p0.Size,iv 1,iv 10000] (.bool (A8 p0.Size 1 10000))) (show Ob.ok _ Ext _ _ from fun hk w2 hd=>C1 p0.Size 1 10000 _ rfl _ w2 (A5 w2))<|oX (.run [⟨19,false,(bif (bif (!(A8 p0.X (-1048576) 1048576)) then true else (!(A8 p0.Y (-1048576) 1048576))) then true else (!(A8 p0.Size 1 10000)))⟩] (Instr.loadAt 3 (.pointer (some ⟨b1,3,none⟩))) (iv p0.Wide)) (ob1 kr (fun _ hd=>(hS.later hd).cell (i:=0) (j:=3) rfl rfl))<|oX (.call [⟨19,false,(bif (bif (!(A8 p0.X (-1048576) 1048576)) then true else (!(A8 p0.Y (-1048576) 1048576))) then true else (!(A8 p0.Size 1 10000)))⟩] 46 #[iv p0.Wide,iv 1,iv 64] (.bool (A8 p0.Wide 1 64))) (show Ob.ok _ Ext _ _ from fun hk w2 hd=>C1 p0.Wide 1 64 _ rfl _ w2 (A5 w2))<|oX (.run [⟨25,false,(bif (bif (bif (!(A8 p0.X (-1048576) 1048576)) then true else (!(A8 p0.Y (-1048576) 1048576))) then true else (!(A8 p0.Size 1 10000))) then true else (!(A8 p0.Wide 1 64)))⟩] (Instr.loadAt 3 (.pointer (some ⟨b1,4,none⟩))) (iv p0.High)) (ob1 kr (fun _ hd=>(hS.later hd).cell (i:=0) (j:=4) rfl rfl))<|oX (.call [⟨25,false,(bif (bif (bif (!(A8 p0.X (-1048576) 1048576)) then true else (!(A8 p0.Y (-1048576) 1048576))) then true else (!(A8 p0.Size 1 10000))) then true else (!(A8 p0.Wide 1 64)))⟩] 46 #[iv p0.High,iv 1,iv 64] (.bool (A8 p0.High 1 64))) (show Ob.ok _ Ext _ _ from fun hk w2 hd=>C1 p0.High 1 64 _ rfl _ w2 (A5 w2))<|A9) fun a w hF hx=>?_
 replace hS:=hS.later hx
 refine wfn rfl ?_
 refine Aj hF rfl (fun hc=>?_) (fun hc=>?_)
 ·replace h:=Af h hc
  refine rnB [(2,iv 3)] hF fun a hF=>?_
  refine wpIn_ret (A6<|Ad [.tmp 2] [iv 3] hF rfl ⟨rfl,trivial⟩ ?_)
  subst h
  exact ⟨rfl,hS.ext⟩
 ·replace h:=Ae h hc
  refine wpIn_skip (A0 ?_)
  refine rnB [(2,iv 0)] hF fun a hF=>?_
  refine wpIn_ret (Ad [.tmp 2] [iv 0] hF rfl ⟨rfl,trivial⟩ ?_)
  subst h
  exact ⟨rfl,hS.ext⟩
theorem P4 (F:Nat) (p0:ByteArray) (res:(List Int)) (h:H7 F p0=some res) (μ:Frz) (w0:World) (hm:FrzAt μ w0):Bj Tryz.prog 105 #[.string p0] w0 (fun e w=>∃zad0 zcap0,e=(sv zad0 res zcap0)∧St w0 [arr 5 1 (fK .u8) zad0 res.length zcap0 res] w):=by
 obtain ⟨hlow,hS⟩:=hm.init
 have hext:=Frz.ext_refl w0.heap.size μ
 rw [H7] at h
 refine Ag Tryz.func105 rfl 9 [(0,.string p0)] rfl rfl kr fun a w hw hF=>?_
 replace hS:=hS.cast hw
 clear hw
 refine qnB [] hF fun a hF=>?_
 refine esr ?_
 refine qn 2 2 [(4,iv ((p0.size:Nat):Int))] hF fun a hF=>?_
 obtain ⟨y2,hy2,h⟩:=A1 h
 refine SK.wi (qR (fun v1=>[(5,v1)]) hF (Au F _ _ hy2 (Ay w) w (A5 w)) ?_)
 rintro v1 w a ⟨ad3,cap4,rfl,hQ⟩ hF
 replace hS:=hS.madeL hQ
 refine rn 1 4 [(5,sv ad3 y2 cap4),(6,.string p0)] hF fun a hF=>?_
 obtain ⟨l5,hl5,h⟩:=A1 h
 refine SK.wi (Yg (src:=9) (dst:=22) 5 (fun ad6 cap7=>[(5,sv ad3 y2 cap4),(7,sv ad6 l5 cap7)]) hF hS kr ⟨kr⟩ kr kr kr hl5 (fun _ _=>⟨kr⟩) fun ad6 cap7 w a hF hS=>?_)
 obtain ⟨l8,hl8,h⟩:=A1 h
 refine SK.wi (Lq (t:=22) (ty:=22) (bytes:=1) (l:=y2) (l':=l5) (fun ad9 a0=>[(8,sv ad9 l8 a0)]) 1 hF hS rfl kr ⟨kr⟩ kr (hS.arrT_ (i:=0) rfl) (fun _ _=>rfl) hl8 (fun _ _=>⟨kr⟩) fun ad9 a0 w a hF hS=>?_)
 refine rn 1 7 [(2,sv ad9 l8 a0)] hF fun a hF=>?_
 refine wfn rfl ?_
 refine wpIn_ret (Ad [.tmp 2] [sv ad9 l8 a0] hF rfl ⟨rfl,trivial⟩ ?_)
 obtain rfl:=Ao h
 exact ⟨_,rfl,_,_,rfl,St.pick [1] (by decide) hS⟩
theorem Ge (F:Nat) (p0:Int) (res:(List Int)) (h:Cn F p0=some res) (μ:Frz) (w0:World) (hm:FrzAt μ w0):Bj Tryz.prog 106 #[iv p0] w0 (fun e w=>∃zad0 zcap0,e=(sv zad0 res zcap0)∧St w0 [arr 5 1 (fK .u8) zad0 res.length zcap0 res] w):=by
 obtain ⟨hlow,hS⟩:=hm.init
 have hext:=Frz.ext_refl w0.heap.size μ
 rw [Cn] at h
 refine Ag Tryz.func106 rfl 12 [(0,iv p0)] rfl rfl kr fun a w hw hF=>?_
 replace hS:=hS.cast hw
 clear hw
 refine qnB [] hF fun a hF=>?_
 refine Ar ?_
 refine qnB [(4,.bool (decide (p0<0)))] hF fun a hF=>?_
 refine Aj hF rfl (fun hc=>?_) (fun hc=>?_)
 ·replace h:=Af h hc
  refine esr ?_
  obtain ⟨x1,hx1,h⟩:=A1 h
  obtain ⟨x2,hx2,h⟩:=A1 h
  refine ro 3 3 [(7,iv x2)] hF (oM 3 hx1<|oS 3 hx2<|A9) fun a hF=>?_
  obtain ⟨y4,hy4,h⟩:=A1 h
  refine SK.wi (rR (fun v3=>[(8,v3)]) hF (Au F _ _ hy4 (Ay w) w (A5 w)) ?_)
  rintro v3 w a ⟨ad5,cap6,rfl,hQ⟩ hF
  replace hS:=hS.madeL hQ
  refine rn 1 5 [(2,sv ad5 y4 cap6)] hF fun a hF=>?_
  refine wfn rfl ?_
  refine wpIn_ret (A6<|Ad [.tmp 2] [sv ad5 y4 cap6] hF rfl ⟨rfl,trivial⟩ ?_)
  obtain rfl:=Ao h
  exact ⟨_,rfl,_,_,rfl,St.pick [0] (by decide) hS⟩
 ·replace h:=Ae h hc
  refine wpIn_skip (A0 ?_)
  refine esr ?_
  obtain ⟨x7,hx7,h⟩:=A1 h
  refine ro 2 2 [(10,iv x7)] hF (oM 3 hx7<|A9) fun a hF=>?_
  obtain ⟨y9,hy9,h⟩:=A1 h
  refine SK.wi (rR (fun v8=>[(11,v8)]) hF (Au F _ _ hy9 (Ay w) w (A5 w)) ?_)
  rintro v8 w a ⟨a0,a1,rfl,hQ⟩ hF
  replace hS:=hS.madeL hQ
  refine rn 1 4 [(2,sv a0 y9 a1)] hF fun a hF=>?_
  refine wfn rfl ?_
  refine wpIn_ret (Ad [.tmp 2] [sv a0 y9 a1] hF rfl ⟨rfl,trivial⟩ ?_)
  obtain rfl:=Ao h
  exact ⟨_,rfl,_,_,rfl,St.pick [0] (by decide) hS⟩
end Go.Proofs.YtifbomimeodibaaGreat
