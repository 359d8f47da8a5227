import Derived.Test.YtkjnafecmjakcaaGreatDoorS3XW9
namespace Go.Proofs.YtkjnafecmjakcaaGreatDoor
open Go Go.RowKit Go.Eng
set_option maxRecDepth 10000
set_option maxHeartbeats 4000000
set_option linter.unusedVariables false
set_option linter.unusedSimpArgs false
theorem Pq (F:Nat) (p0:api_Sweep) (res:Int) (h:Ks F p0=some res) (μ:Frz) (w0:World) (hm:FrzAt μ w0) {ad1:Option Addr} {cap2:Nat} {css3:List (List Value)} (hA4:ArrQ μ 1 Rp78 ad1 cap2 css3 p0.Rays):Calls Tryz.prog 74 #[.agg (p0.ax ad1 cap2)] w0 (fun e w=>e=.returned (iv res)∧Ext w0 w):=by
 obtain ⟨hlow,hS⟩:=hm.init;have hext:=Frz.ext_refl w0.heap.size μ;rw [Ks] at h;refine feW Tryz.func74 69 [(0,.agg (p0.ax ad1 cap2))] hS fun a w hF hS=>?_;refine esr<|SK.wi (qBa 50 (p0.ax ad1 cap2) (fun b5=>[(1,pb b5)]) hF hS fun b5 w a hF hS=>?_);refine qn 1 2 [] hF fun a hF=>wfn rfl ?_;refine Ak<|esr ?_;obtain ⟨y6,hy6,h⟩:=A0 h;refine qx 4 4 [(3,iv y6)] hF (oN 47 0 0 8 hS.e rfl<|oC (fun w2 hd=>Ur F p0.Site _ hy6 _ w2 (A3 w2))<|A1) fun a w hF hx=>?_;replace hS:=hS.later hx;refine wfn rfl ?_;refine qnB [(15,.bool (y6 != 0))] hF fun a hF=>?_;refine A8 hF h (fun hc h=>?_) fun hc h=>?_
 ·refine rnB [(2,iv y6)] hF fun a hF=>?_;refine wpIn_ret (A4<|A7 [.tmp 2] [_] hF rfl ⟨rfl,trivial⟩ ?_);obtain rfl:=Ad h;exact ⟨rfl,hS.ext⟩
 ·refine wK<|Ak<|esr<|qx 10 10 [(26,.bool (bif (!(Ay p0.Tilt 0 256)) then true else (!(Ay p0.Time 0 4294967296))))] hF (oL 3 0 8 hS.e rfl rfl<|oC (fun w2 hd=>Hv p0.Tilt 0 256 _ rfl _ w2 (A3 w2))<|oGs [⟨21,false,(!(Ay p0.Tilt 0 256))⟩] (oL 3 0 9 hS.e rfl rfl<|oC (fun w2 hd=>Hv p0.Time 0 4294967296 _ rfl _ w2 (A3 w2))<|A1)<|A1) fun a w hF hx=>?_;replace hS:=hS.later hx;refine wfn rfl ?_;refine A8 hF h (fun hc h=>?_) fun hc h=>?_
  ·refine rnB [(2,iv 3)] hF fun a hF=>?_;refine wpIn_ret (A4<|A7 [.tmp 2] [_] hF rfl ⟨rfl,trivial⟩ ?_);obtain rfl:=Ad h;exact ⟨rfl,hS.ext⟩
  ·refine wK<|Ak<|esr ?_;obtain ⟨x7,hx7,h⟩:=A0 h;refine qo 8 8 [(34,.bool ((ln p0.Rays) != x7))] hF (oL 48 0 10 hS.i rfl rfl<|oL 3 0 4 hS.i rfl rfl<|oM 3 hx7<|A1) fun a hF=>wfn rfl ?_;refine A8 hF h (fun hc h=>?_) fun hc h=>?_
   ·refine rnB [(2,iv 11)] hF fun a hF=>?_;refine wpIn_ret (A4<|A7 [.tmp 2] [_] hF rfl ⟨rfl,trivial⟩ ?_);obtain rfl:=Ad h;exact ⟨rfl,hS.ext⟩
   ·refine wK<|Bq (fun a w=>Fr 69 [] [(1,pb b5)] a∧St w0 [blk b5 50 (p0.ax ad1 cap2),fz w0 μ] w∧L5 F p0=some res) ?_ ?_
    ·skip
     refine qoB [(36,sv ad1 p0.Rays cap2),(37,iv (ln p0.Rays)),(38,iv 0)] hF (oL 48 0 10 hS.i rfl rfl<|A1) fun a hF=>?_;refine wpIn_block<|Bk (fun n_ a w=>∃(a4:Int),Fr 69 [] [(1,pb b5),(36,sv ad1 p0.Rays cap2),(37,iv (ln p0.Rays)),(38,iv a4)] a∧St w0 [blk b5 50 (p0.ax ad1 cap2),fz w0 μ] w∧Gi F p0 n_ a4=some res) F ⟨0,hF.sub kr,St.pick [0,1] (by decide) hS,h⟩ ?_;rintro nk6 a w ⟨a4,hF,hS,h⟩;rcases nk6 with _|nk6
     ·cases (show (none:Option Int)=some res from h)
     obtain ⟨k6,hk6⟩:∃k,k=Gi F p0 nk6:=⟨_,rfl⟩;replace h:L4 F p0 k6 a4=some res:=by rw [hk6];exact h
     rw [L4] at h;refine qnB [(39,.bool (decide (a4<(ln p0.Rays))))] hF fun a hF=>?_;refine Ak<|A8 hF h (fun hc h=>?_) fun hc h=>?_
     ·refine wK<|Ak<|wpIn_block<|esr ?_;obtain ⟨aD,aM,h⟩:=A0 h;obtain ⟨aS,aB,aK⟩:=Ab hA4.2 aM;obtain ⟨aH,aI,rfl,aT⟩:=aK;refine qo 3 3 [(5,sv aH aD aI)] hF (oI 48 (hA4.at (hS.frz (i:=1) rfl hlow)) aB<|oE 78 0 (Ah 1) (fun _ hd=>(hA4.at ((hS.at_ hd).frz (i:=1) rfl hlow))) aB rfl<|A1) fun a hF=>wfn rfl ?_;refine qoB [(47,.bool ((ln aD) != p0.Site.Gates))] hF (oL 3 0 5 hS.i rfl rfl<|A1) fun a hF=>?_;refine A8 hF h (fun hc h=>?_) fun hc h=>?_
      ·refine rnB [(2,iv 11)] hF fun a hF=>?_;refine wpIn_ret (A9<|A4<|A4<|A9<|A4<|A7 [.tmp 2] [_] hF rfl ⟨rfl,trivial⟩ ?_);obtain rfl:=Ad h;exact ⟨rfl,hS.ext⟩
      ·refine wpIn_skip (A5<|A2<|?_);refine WI.region ?_;obtain ⟨aG,aP,h⟩:=A0 h;refine ro 2 2 [(1,pb b5),(36,sv ad1 p0.Rays cap2),(37,iv (ln p0.Rays)),(38,iv aG)] hF (oA 3 aP<|A1) fun a hF=>wfn rfl ?_;rw [hk6] at h;exact ⟨nk6,Nat.lt_succ_self _,aG,hF.sub kr,St.pick [0,1] (by decide) hS,h⟩
     ·refine wpIn_exit (Aa<|Aa<|Ao<|A2 ?_);exact ⟨hF.sub kr,St.pick [0,1] (by decide) hS,h⟩
    rintro a w ⟨hF,hS,h⟩;rw [L5] at h;refine Bq (fun a w=>Fr 69 [] [] a∧St w0 [blk b5 50 (p0.ax ad1 cap2),fz w0 μ] w∧L6=some res) ?_ ?_
    ·skip
     refine roB [(50,sv ad1 p0.Rays cap2),(51,iv (ln p0.Rays)),(52,iv 0)] hF (oL 48 0 10 hS.i rfl rfl<|A1) fun a hF=>?_;refine wpIn_block<|Bk (fun n_ a w=>∃(a1:Int),Fr 69 [] [(50,sv ad1 p0.Rays cap2),(51,iv (ln p0.Rays)),(52,iv a1)] a∧St w0 [blk b5 50 (p0.ax ad1 cap2),fz w0 μ] w∧Gg F p0 n_ a1=some res) F ⟨0,hF.sub kr,St.pick [0,1] (by decide) hS,h⟩ ?_;rintro nk3 a w ⟨a1,hF,hS,h⟩;rcases nk3 with _|nk3
     ·cases (show (none:Option Int)=some res from h)
     obtain ⟨k3,hk3⟩:∃k,k=Gg F p0 nk3:=⟨_,rfl⟩;replace h:L0 F p0 k3 a1=some res:=by rw [hk3];exact h
     rw [L0] at h;refine qnB [(53,.bool (decide (a1<(ln p0.Rays))))] hF fun a hF=>?_;refine Ak<|A8 hF h (fun hc h=>?_) fun hc h=>?_
     ·refine wK<|Bq (fun a w=>Fr 69 [] [(50,sv ad1 p0.Rays cap2),(51,iv (ln p0.Rays)),(52,iv a1)] a∧St w0 [blk b5 50 (p0.ax ad1 cap2),fz w0 μ] w∧L7 a1 k3=some res) ?_ ?_
      ·skip
       refine wpIn_block<|esr ?_;obtain ⟨a2,aL,h⟩:=A0 h;obtain ⟨aR,aA,aJ⟩:=Ab hA4.2 aL;obtain ⟨a5,a6,rfl,a9⟩:=aJ;refine qo 3 3 [(7,sv a5 a2 a6)] hF (oI 48 (hA4.at (hS.frz (i:=1) rfl hlow)) aA<|oE 78 0 (Ah 1) (fun _ hd=>(hA4.at ((hS.at_ hd).frz (i:=1) rfl hlow))) aA rfl<|A1) fun a hF=>wfn rfl ?_;refine qnB [(56,sv a5 a2 a6),(57,iv (ln a2)),(58,iv 0)] hF fun a hF=>?_;refine wpIn_block<|Bk (fun n_ a w=>∃(a3:Int),Fr 69 [] [(50,sv ad1 p0.Rays cap2),(51,iv (ln p0.Rays)),(52,iv a1),(56,sv a5 a2 a6),(57,iv (ln a2)),(58,iv a3)] a∧St w0 [blk b5 50 (p0.ax ad1 cap2),fz w0 μ] w∧Gh F a1 k3 a2 n_ a3=some res) F ⟨0,hF.sub kr,St.pick [0,1] (by decide) hS,h⟩ ?_;rintro nk5 a w ⟨a3,hF,hS,h⟩;rcases nk5 with _|nk5
       ·cases (show (none:Option Int)=some res from h)
       obtain ⟨k5,hk5⟩:∃k,k=Gh F a1 k3 a2 nk5:=⟨_,rfl⟩;replace h:L1 F a1 k3 a2 k5 a3=some res:=by rw [hk5];exact h
       rw [L1] at h;refine qnB [(59,.bool (decide (a3<(ln a2))))] hF fun a hF=>?_;refine Ak<|A8 hF h (fun hc h=>?_) fun hc h=>?_
       ·refine wK<|Ak<|wpIn_block<|esr ?_;obtain ⟨a0,aC,h⟩:=A0 h;refine qo 2 2 [(61,a0.ag)] hF (oI 78 (a9 _ (hS.frz (i:=1) rfl hlow)) aC<|oG 83 0 14 api_Echo.cells_len (fun _ hd=>(a9 _ ((hS.at_ hd).frz (i:=1) rfl hlow))) aC<|A1) fun a hF=>?_;refine SK.wi (qA 83 z83 (fun a8=>[(9,pb a8)]) hF hS fun a8 w a hF hS=>?_);refine SK.wi (qw 83 0 a0.ar hF hS rfl fun w a hF hS=>wfn rfl ?_);refine esr ?_;obtain ⟨a7,aQ,h⟩:=A0 h;refine qx 3 3 [(10,iv a7)] hF (oN 83 0 0 14 hS.e rfl<|oC (fun w2 hd=>Uf F (api_Echo.mk a0.Kind a0.Power ((api_Span.mk a0.Steps.1.Lo a0.Steps.1.Hi),(api_Span.mk a0.Steps.2.Lo a0.Steps.2.Hi)) a0.Spread a0.Ratio a0.Match a0.Turn) _ aQ _ w2 (A3 w2))<|A1) fun a w hF hx=>?_;replace hS:=hS.later hx;refine wfn rfl ?_;refine qnB [(65,.bool (a7 != 0))] hF fun a hF=>?_;refine A8 hF h (fun hc h=>?_) fun hc h=>?_
        ·refine rnB [(2,iv a7)] hF fun a hF=>?_;refine wpIn_ret (A9<|A4<|A4<|A9<|A9<|A4<|A4<|A9<|A4<|A7 [.tmp 2] [_] hF rfl ⟨rfl,trivial⟩ ?_);obtain rfl:=Ad h;exact ⟨rfl,hS.ext⟩
        ·refine wpIn_skip (A5<|A2<|?_);refine WI.region ?_;obtain ⟨aF,aO,h⟩:=A0 h;refine ro 2 2 [(50,sv ad1 p0.Rays cap2),(51,iv (ln p0.Rays)),(52,iv a1),(56,sv a5 a2 a6),(57,iv (ln a2)),(58,iv aF)] hF (oA 3 aO<|A1) fun a hF=>wfn rfl ?_;rw [hk5] at h;exact ⟨nk5,Nat.lt_succ_self _,aF,hF.sub kr,St.pick [1,2] (by decide) hS,h⟩
       ·refine wpIn_exit (Aa<|Aa<|Ao<|A5<|A2<|?_);exact ⟨hF.sub kr,St.pick [0,1] (by decide) hS,h⟩
      rintro a w ⟨hF,hS,h⟩;rw [L7] at h;refine WI.region ?_;obtain ⟨aE,aN,h⟩:=A0 h;refine ro 2 2 [(50,sv ad1 p0.Rays cap2),(51,iv (ln p0.Rays)),(52,iv aE)] hF (oA 3 aN<|A1) fun a hF=>wfn rfl ?_;rw [hk3] at h;exact ⟨nk3,Nat.lt_succ_self _,aE,hF.sub kr,St.pick [0,1] (by decide) hS,h⟩
     ·refine wpIn_exit (Aa<|Aa<|Ao<|A2 ?_);exact ⟨hF.sub kr,St.pick [0,1] (by decide) hS,h⟩
    rintro a w ⟨hF,hS,h⟩;rw [L6] at h;refine rnB [(2,iv 0)] hF fun a hF=>?_;refine wpIn_ret (A7 [.tmp 2] [_] hF rfl ⟨rfl,trivial⟩ ?_);obtain rfl:=Ad h;exact ⟨rfl,hS.ext⟩
theorem Ms (F:Nat) (p0:(List ref04_Rule)) (res:Int) (h:Dv F p0=some res) (μ:Frz) (w0:World) (hm:FrzAt μ w0) {ad1:Option Addr} {cap2:Nat} {css3:List (List Value)} (hA4:ArrQ μ 6 Rp101 ad1 cap2 css3 p0):Calls Tryz.prog 18 #[sv ad1 p0 cap2] w0 (fun e w=>e=.returned (iv res)∧Ext w0 w):=by
 obtain ⟨hlow,hS⟩:=hm.init;have hext:=Frz.ext_refl w0.heap.size μ;rw [Dv] at h;refine feW Tryz.func18 77 [(0,sv ad1 p0 cap2)] hS fun a w hF hS=>?_;refine qnB [] hF fun a hF=>?_;refine Ak<|qnB [(9,.bool (decide ((ln p0)>32)))] hF fun a hF=>?_;refine A8 hF h (fun hc h=>?_) fun hc h=>?_
 ·refine rnB [(2,iv 9)] hF fun a hF=>?_;refine wpIn_ret (A4<|A7 [.tmp 2] [_] hF rfl ⟨rfl,trivial⟩ ?_);obtain rfl:=Ad h;exact ⟨rfl,hS.ext⟩
 ·refine wK<|qnB [(3,iv 0)] hF fun a hF=>?_;refine Bq (fun a w=>Fr 77 [] [(0,sv ad1 p0 cap2)] a∧St w0 [fz w0 μ] w∧Qd F p0=some res) ?_ ?_
  ·skip
   refine qnB [(4,iv 0)] hF fun a hF=>?_;refine wpIn_block<|Bk (fun n_ a w=>∃(a4:Int) (a1:Int),Fr 77 [] [(0,sv ad1 p0 cap2),(3,iv a4),(4,iv a1)] a∧St w0 [fz w0 μ] w∧Jy F p0 n_ a4 a1=some res) F ⟨0,0,hF.sub kr,St.pick [0] (by decide) hS,h⟩ ?_;rintro nk7 a w ⟨a4,a1,hF,hS,h⟩;rcases nk7 with _|nk7
   ·cases (show (none:Option Int)=some res from h)
   obtain ⟨k7,hk7⟩:∃k,k=Jy F p0 nk7:=⟨_,rfl⟩;replace h:Jw F p0 k7 a4 a1=some res:=by rw [hk7];exact h
   rw [Jw] at h;refine Ak<|qnB [(13,.bool (decide (a1<(ln p0))))] hF fun a hF=>?_;refine A8 hF h (fun hc h=>?_) fun hc h=>?_
   ·refine wK<|Ak<|wpIn_block<|esr ?_;obtain ⟨bD,aZ,h⟩:=A0 h;obtain ⟨c1,aE,aS⟩:=Ab hA4.2 aZ;obtain ⟨bN,bU,c8,rfl,aL⟩:=aS;obtain ⟨cD,b8,h⟩:=A0 h;obtain ⟨a5,b2,h⟩:=A0 h;refine rX 9 9 [(0,sv ad1 p0 cap2),(3,iv a5),(4,iv a1)] hF (oI 22 (hA4.at (hS.frz (i:=0) rfl hlow)) aE<|oG 88 1 5 (Ah 6) (fun _ hd=>(hA4.at ((hS.later hd).frz (i:=0) rfl hlow))) aE<|oC (fun w2 hd=>Te F bD.When 300 _ b8 _ w2 (A3 w2) (aL.mono Rp88.mono (FrzAt.le_mem ((hS.later hd).frz (i:=0) rfl hlow))))<|oA 3 b2<|A1) fun a w hF hx=>?_;replace hS:=hS.later hx;refine wfn rfl ?_;refine qnB [(25,.bool (decide (a5>300)))] hF fun a hF=>?_;refine A8 hF h (fun hc h=>?_) fun hc h=>?_
    ·refine rnB [(2,iv 9)] hF fun a hF=>?_;refine wpIn_ret (A9<|A4<|A4<|A9<|A4<|A7 [.tmp 2] [_] hF rfl ⟨rfl,trivial⟩ ?_);obtain rfl:=Ad h;exact ⟨rfl,hS.ext⟩
    ·refine wpIn_skip (A5<|A2<|?_);refine WI.region ?_;obtain ⟨aH,b3,h⟩:=A0 h;refine ro 3 3 [(0,sv ad1 p0 cap2),(3,iv a5),(4,iv aH)] hF (oA 3 b3<|A1) fun a hF=>wfn rfl ?_;rw [hk7] at h;exact ⟨nk7,Nat.lt_succ_self _,a5,aH,hF.sub kr,St.pick [0] (by decide) hS,h⟩
   ·refine wpIn_exit (Aa<|Aa<|Ao<|A2 ?_);exact ⟨hF.sub kr,St.pick [0] (by decide) hS,h⟩
  rintro a w ⟨hF,hS,h⟩;rw [Qd] at h;refine Bq (fun a w=>Fr 77 [] [] a∧St w0 [fz w0 μ] w∧Qe=some res) ?_ ?_
  ·skip
   refine qnB [(5,iv 0)] hF fun a hF=>?_;refine wpIn_block<|Bk (fun n_ a w=>∃(a0:Int),Fr 77 [] [(0,sv ad1 p0 cap2),(5,iv a0)] a∧St w0 [fz w0 μ] w∧Dw F p0 n_ a0=some res) F ⟨0,hF.sub kr,St.pick [0] (by decide) hS,h⟩ ?_;rintro nk3 a w ⟨a0,hF,hS,h⟩;rcases nk3 with _|nk3
   ·cases (show (none:Option Int)=some res from h)
   obtain ⟨k3,hk3⟩:∃k,k=Dw F p0 nk3:=⟨_,rfl⟩;replace h:Jv F p0 k3 a0=some res:=by rw [hk3];exact h
   rw [Jv] at h;refine Ak<|qnB [(29,.bool (decide (a0<(ln p0))))] hF fun a hF=>?_;refine A8 hF h (fun hc h=>?_) fun hc h=>?_
   ·refine wK<|Bq (fun a w=>Fr 77 [] [(0,sv ad1 p0 cap2),(5,iv a0)] a∧St w0 [fz w0 μ] w∧Mr a0 k3=some res) ?_ ?_
    ·skip
     refine wpIn_block<|Ak<|esr ?_;obtain ⟨b9,aT,h⟩:=A0 h;obtain ⟨bV,a8,aM⟩:=Ab hA4.2 aT;obtain ⟨bH,bO,c2,rfl,c9⟩:=aM;obtain ⟨aI,b4,h⟩:=A0 h;refine qx 8 8 [(39,.bool (!aI))] hF (oI 22 (hA4.at (hS.frz (i:=0) rfl hlow)) a8<|oE 9 0 (Ah 6) (fun _ hd=>(hA4.at ((hS.later hd).frz (i:=0) rfl hlow))) a8 rfl<|oC (fun w2 hd=>Xi F b9.Name _ b4 _ w2 (A3 w2))<|A1) fun a w hF hx=>?_;replace hS:=hS.later hx;rcases Bool.eq_false_or_eq_true ((!aI)) with a2|a2
     ·replace h:=Cg h a2;rw [a2] at hF;refine qk 9 [(39,.bool true),(40,undef)] hF fun a hF=>?_;refine qk 10 [(41,undef)] hF fun a hF=>?_;refine qk 11 [(42,undef)] hF fun a hF=>?_;refine qk 12 [(43,undef)] hF fun a hF=>?_;refine qk 13 [(44,undef)] hF fun a hF=>?_;refine qk 14 [(45,undef)] hF fun a hF=>?_;refine qn 1 15 [(46,.bool true)] hF fun a hF=>wfn rfl ?_;refine wpIn_cond_true (hF.get rfl) ?_;refine rnB [(2,iv 10)] hF fun a hF=>?_;refine wpIn_ret (A4<|A9<|A4<|A4<|A9<|A4<|A7 [.tmp 2] [_] hF rfl ⟨rfl,trivial⟩ ?_);obtain rfl:=Ad h;exact ⟨rfl,hS.ext⟩
     ·replace h:=Cf h a2;rw [a2] at hF;obtain ⟨bA,aU,h⟩:=A0 h;obtain ⟨bW,a9,aN⟩:=Ab hA4.2 aU;obtain ⟨bI,bP,c3,rfl,cA⟩:=aN;obtain ⟨bE,b5,h⟩:=A0 h;refine qx 7 15 [(46,.bool bE)] hF (oGs [⟨39,false,false⟩] (oI 22 (hA4.at (hS.frz (i:=0) rfl hlow)) a9<|oE 9 0 (Ah 6) (fun _ hd=>(hA4.at ((hS.later hd).frz (i:=0) rfl hlow))) a9 rfl<|oC (fun w2 hd=>Xl F bA.Name _ b5 _ w2 (A3 w2))<|A1)<|A1) fun a w hF hx=>?_;replace hS:=hS.later hx;refine wfn rfl ?_;refine A8 hF h (fun hc h=>?_) fun hc h=>?_
      ·refine rnB [(2,iv 10)] hF fun a hF=>?_;refine wpIn_ret (A4<|A9<|A4<|A4<|A9<|A4<|A7 [.tmp 2] [_] hF rfl ⟨rfl,trivial⟩ ?_);obtain rfl:=Ad h;exact ⟨rfl,hS.ext⟩
      ·refine wK<|Bq (fun a w=>Fr 77 [] [(0,sv ad1 p0 cap2),(5,iv a0)] a∧St w0 [fz w0 μ] w∧Jx F p0 a0 k3=some res) ?_ ?_
       ·skip
        refine qnB [(6,iv 0)] hF fun a hF=>?_;refine wpIn_block<|Bk (fun n_ a w=>∃(a3:Int),Fr 77 [] [(0,sv ad1 p0 cap2),(5,iv a0),(6,iv a3)] a∧St w0 [fz w0 μ] w∧Dx F p0 a0 k3 n_ a3=some res) F ⟨0,hF.sub kr,St.pick [0] (by decide) hS,h⟩ ?_;rintro nk6 a w ⟨a3,hF,hS,h⟩;rcases nk6 with _|nk6
        ·cases (show (none:Option Int)=some res from h)
        obtain ⟨k6,hk6⟩:∃k,k=Dx F p0 a0 k3 nk6:=⟨_,rfl⟩;replace h:Gm F p0 a0 k3 k6 a3=some res:=by rw [hk6];exact h
        rw [Gm] at h;refine Ak<|qnB [(49,.bool (decide (a3<a0)))] hF fun a hF=>?_;refine A8 hF h (fun hc h=>?_) fun hc h=>?_
        ·refine wK<|Ak<|wpIn_block<|Ak ?_;obtain ⟨a6,aX,h⟩:=A0 h;obtain ⟨bZ,aC,aQ⟩:=Ab hA4.2 aX;obtain ⟨bL,bS,c6,rfl,cB⟩:=aQ;obtain ⟨a7,aY,h⟩:=A0 h;obtain ⟨c0,aD,aR⟩:=Ab hA4.2 aY;obtain ⟨bM,bT,c7,rfl,cC⟩:=aR;refine qD 11 [(62,.bool (sEq a6.Name a7.Name))] hF (oI 22 (hA4.at (hS.frz (i:=0) rfl hlow)) aC<|oE 9 0 (Ah 6) (fun _ hd=>(hA4.at ((hS.later hd).frz (i:=0) rfl hlow))) aC rfl<|oI 22 (hA4.at (hS.frz (i:=0) rfl hlow)) aD<|oE 9 0 (Ah 6) (fun _ hd=>(hA4.at ((hS.later hd).frz (i:=0) rfl hlow))) aD rfl<|oX (.run [] (Na .eql 9 a6.Name a7.Name) (.bool (sEq a6.Name a7.Name))) Ro<|A1) fun a w hF hx=>?_;replace hS:=hS.later hx;refine wfn rfl ?_;refine A8 hF h (fun hc h=>?_) fun hc h=>?_
         ·refine rnB [(2,iv 5)] hF fun a hF=>?_;refine wpIn_ret (A9<|A4<|A4<|A9<|A4<|A9<|A4<|A4<|A9<|A4<|A7 [.tmp 2] [_] hF rfl ⟨rfl,trivial⟩ ?_);obtain rfl:=Ad h;exact ⟨rfl,hS.ext⟩
         ·refine wpIn_skip (A5<|A2<|?_);refine WI.region ?_;obtain ⟨aG,b1,h⟩:=A0 h;refine ro 3 3 [(0,sv ad1 p0 cap2),(5,iv a0),(6,iv aG)] hF (oA 3 b1<|A1) fun a hF=>wfn rfl ?_;rw [hk6] at h;exact ⟨nk6,Nat.lt_succ_self _,aG,hF.sub kr,St.pick [0] (by decide) hS,h⟩
        ·refine wpIn_exit (Aa<|Aa<|Ao<|A2 ?_);exact ⟨hF.sub kr,St.pick [0] (by decide) hS,h⟩
       rintro a w ⟨hF,hS,h⟩;rw [Jx] at h;refine Ak<|esr ?_;obtain ⟨bB,aV,h⟩:=A0 h;obtain ⟨bX,aA,aO⟩:=Ab hA4.2 aV;obtain ⟨bJ,bQ,c4,rfl,aJ⟩:=aO;obtain ⟨bF,b6,h⟩:=A0 h;refine qx 7 7 [(69,.bool (decide (bF>12)))] hF (oI 22 (hA4.at (hS.frz (i:=0) rfl hlow)) aA<|oG 88 1 5 (Ah 6) (fun _ hd=>(hA4.at ((hS.later hd).frz (i:=0) rfl hlow))) aA<|oC (fun w2 hd=>X1 F bB.When _ b6 _ w2 (A3 w2) (aJ.mono Rp88.mono (FrzAt.le_mem ((hS.later hd).frz (i:=0) rfl hlow))))<|A1) fun a w hF hx=>?_;replace hS:=hS.later hx;refine wfn rfl ?_;refine A8 hF h (fun hc h=>?_) fun hc h=>?_
       ·refine rnB [(2,iv 24)] hF fun a hF=>?_;refine wpIn_ret (A4<|A9<|A4<|A4<|A9<|A4<|A7 [.tmp 2] [_] hF rfl ⟨rfl,trivial⟩ ?_);obtain rfl:=Ad h;exact ⟨rfl,hS.ext⟩
       ·refine wK<|esr ?_;obtain ⟨bC,aW,h⟩:=A0 h;obtain ⟨bY,aB,aP⟩:=Ab hA4.2 aW;obtain ⟨bK,bR,c5,rfl,aK⟩:=aP;obtain ⟨bG,b7,h⟩:=A0 h;refine qx 7 7 [(76,.bool (!bG))] hF (oI 22 (hA4.at (hS.frz (i:=0) rfl hlow)) aB<|oG 88 1 5 (Ah 6) (fun _ hd=>(hA4.at ((hS.later hd).frz (i:=0) rfl hlow))) aB<|oC (fun w2 hd=>Ug F bC.When _ b7 _ w2 (A3 w2) (aK.mono Rp88.mono (FrzAt.le_mem ((hS.later hd).frz (i:=0) rfl hlow))))<|A1) fun a w hF hx=>?_;replace hS:=hS.later hx;refine wfn rfl ?_;refine A8 hF h (fun hc h=>?_) fun hc h=>?_
        ·refine rnB [(2,iv 2)] hF fun a hF=>?_;refine wpIn_ret (A9<|A4<|A4<|A9<|A4<|A7 [.tmp 2] [_] hF rfl ⟨rfl,trivial⟩ ?_);obtain rfl:=Ad h;exact ⟨rfl,hS.ext⟩
        ·refine wpIn_skip (A5<|A2<|?_);exact ⟨hF.sub kr,St.pick [0] (by decide) hS,h⟩
    rintro a w ⟨hF,hS,h⟩;rw [Mr] at h;refine WI.region ?_;obtain ⟨aF,b0,h⟩:=A0 h;refine ro 3 3 [(0,sv ad1 p0 cap2),(5,iv aF)] hF (oA 3 b0<|A1) fun a hF=>wfn rfl ?_;rw [hk3] at h;exact ⟨nk3,Nat.lt_succ_self _,aF,hF.sub kr,St.pick [0] (by decide) hS,h⟩
   ·refine wpIn_exit (Aa<|Aa<|Ao<|A2 ?_);exact ⟨hF.sub kr,St.pick [0] (by decide) hS,h⟩
  rintro a w ⟨hF,hS,h⟩;rw [Qe] at h;refine rnB [(2,iv 0)] hF fun a hF=>?_;refine wpIn_ret (A7 [.tmp 2] [_] hF rfl ⟨rfl,trivial⟩ ?_);obtain rfl:=Ad h;exact ⟨rfl,hS.ext⟩
end Go.Proofs.YtkjnafecmjakcaaGreatDoor
