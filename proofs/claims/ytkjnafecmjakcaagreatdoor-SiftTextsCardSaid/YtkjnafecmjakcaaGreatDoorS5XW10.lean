import Derived.Test.YtkjnafecmjakcaaGreatDoorS5XW7
namespace Go.Proofs.YtkjnafecmjakcaaGreatDoor
open Go Go.RowKit Go.Eng
set_option maxRecDepth 10000
set_option maxHeartbeats 4000000
set_option linter.unusedVariables false
set_option linter.unusedSimpArgs false
theorem N6 (F:Nat) (p0:api_Sweep) (res:Int) (h:Jm F p0=some res) (μ:Frz) (w0:World) (hm:FrzAt μ w0) {ad1:Option Addr} {cap2:Nat} {css3:List (List Value)} (hA4:ArrQ μ 1 Rp78 ad1 cap2 css3 p0.Rays):Calls Tryz.prog 74 #[.agg (p0.ax ad1 cap2)] w0 (fun e w=>e=.returned (iv res)∧Ext w0 w):=by
 obtain ⟨hlow,hS⟩:=hm.init;have hext:=Frz.ext_refl w0.heap.size μ;rw [Jm] at h;refine feW Tryz.func74 69 [(0,.agg (p0.ax ad1 cap2))] hS fun a w hF hS=>?_;refine esr<|SK.wi (qBa 50 (p0.ax ad1 cap2) (fun b5=>[(1,pb b5)]) hF hS fun b5 w a hF hS=>?_);refine qn 1 2 [] hF fun a hF=>wfn rfl ?_;refine Ar<|esr ?_;obtain ⟨y6,hy6,h⟩:=A0 h;refine qx 4 4 [(3,iv y6)] hF (oN 47 0 0 8 hS.e rfl<|oC (fun w2 hd=>T3 F p0.Site _ hy6 _ w2 (A4 w2))<|A1) fun a w hF hx=>?_;replace hS:=hS.later hx;refine wfn rfl ?_;refine qnB [(15,.bool (y6 != 0))] hF fun a hF=>?_;refine A8 hF h (fun hc h=>?_) fun hc h=>?_
 ·refine rnB [(2,iv y6)] hF fun a hF=>?_;refine wpIn_ret (A6<|A7 [.tmp 2] [_] hF rfl ⟨rfl,trivial⟩ ?_);obtain rfl:=Ad h;exact ⟨rfl,hS.ext⟩
 ·refine wK<|Ar<|esr<|qx 10 10 [(26,.bool (bif (!(B7 p0.Tilt 0 256)) then true else (!(B7 p0.Time 0 4294967296))))] hF (oL 3 0 8 hS.e rfl rfl<|oC (fun w2 hd=>Hg p0.Tilt 0 256 _ rfl _ w2 (A4 w2))<|oGs [⟨21,false,(!(B7 p0.Tilt 0 256))⟩] (oL 3 0 9 hS.e rfl rfl<|oC (fun w2 hd=>Hg p0.Time 0 4294967296 _ rfl _ w2 (A4 w2))<|A1)<|A1) fun a w hF hx=>?_;replace hS:=hS.later hx;refine wfn rfl ?_;refine A8 hF h (fun hc h=>?_) fun hc h=>?_
  ·refine rnB [(2,iv 3)] hF fun a hF=>?_;refine wpIn_ret (A6<|A7 [.tmp 2] [_] hF rfl ⟨rfl,trivial⟩ ?_);obtain rfl:=Ad h;exact ⟨rfl,hS.ext⟩
  ·refine wK<|Ar<|esr ?_;obtain ⟨x7,hx7,h⟩:=A0 h;refine qo 8 8 [(34,.bool ((ln p0.Rays) != x7))] hF (oL 48 0 10 hS.i rfl rfl<|oL 3 0 4 hS.i rfl rfl<|oM 3 hx7<|A1) fun a hF=>wfn rfl ?_;refine A8 hF h (fun hc h=>?_) fun hc h=>?_
   ·refine rnB [(2,iv 11)] hF fun a hF=>?_;refine wpIn_ret (A6<|A7 [.tmp 2] [_] hF rfl ⟨rfl,trivial⟩ ?_);obtain rfl:=Ad h;exact ⟨rfl,hS.ext⟩
   ·refine wK<|Ct (fun a w=>Fr 69 [] [(1,pb b5)] a∧St w0 [blk b5 50 (p0.ax ad1 cap2),fz w0 μ] w∧Jv F p0=some res) ?_ ?_
    ·skip
     refine qoB [(36,sv ad1 p0.Rays cap2),(37,iv (ln p0.Rays)),(38,iv 0)] hF (oL 48 0 10 hS.i rfl rfl<|A1) fun a hF=>?_;refine wpIn_block<|Cp (fun n_ a w=>∃(a4:Int),Fr 69 [] [(1,pb b5),(36,sv ad1 p0.Rays cap2),(37,iv (ln p0.Rays)),(38,iv a4)] a∧St w0 [blk b5 50 (p0.ax ad1 cap2),fz w0 μ] w∧Gi F p0 n_ a4=some res) F ⟨0,hF.sub kr,St.pick [0,1] (by decide) hS,h⟩ ?_;rintro nk6 a w ⟨a4,hF,hS,h⟩;rcases nk6 with _|nk6
     ·cases (show (none:Option Int)=some res from h)
     obtain ⟨k6,hk6⟩:∃k,k=Gi F p0 nk6:=⟨_,rfl⟩;replace h:Ju F p0 k6 a4=some res:=by rw [hk6];exact h
     rw [Ju] at h;refine qnB [(39,.bool (decide (a4<(ln p0.Rays))))] hF fun a hF=>?_;refine Ar<|A8 hF h (fun hc h=>?_) fun hc h=>?_
     ·refine wK<|Ar<|wpIn_block<|esr ?_;obtain ⟨aD,aM,h⟩:=A0 h;obtain ⟨aS,aB,aK⟩:=Aj hA4.2 aM;obtain ⟨aH,aI,rfl,aT⟩:=aK;refine qo 3 3 [(5,sv aH aD aI)] hF (oI 48 (hA4.at (hS.frz (i:=1) rfl hlow)) aB<|oE 78 0 (At 1) (fun _ hd=>(hA4.at ((hS.at_ hd).frz (i:=1) rfl hlow))) aB rfl<|A1) fun a hF=>wfn rfl ?_;refine qoB [(47,.bool ((ln aD) != p0.Site.Gates))] hF (oL 3 0 5 hS.i rfl rfl<|A1) fun a hF=>?_;refine A8 hF h (fun hc h=>?_) fun hc h=>?_
      ·refine rnB [(2,iv 11)] hF fun a hF=>?_;refine wpIn_ret (Ab<|A6<|A6<|Ab<|A6<|A7 [.tmp 2] [_] hF rfl ⟨rfl,trivial⟩ ?_);obtain rfl:=Ad h;exact ⟨rfl,hS.ext⟩
      ·refine wpIn_skip (A5<|A2<|?_);refine WI.region ?_;obtain ⟨aG,aP,h⟩:=A0 h;refine ro 2 2 [(1,pb b5),(36,sv ad1 p0.Rays cap2),(37,iv (ln p0.Rays)),(38,iv aG)] hF (oA 3 aP<|A1) fun a hF=>wfn rfl ?_;rw [hk6] at h;exact ⟨nk6,Nat.lt_succ_self _,aG,hF.sub kr,St.pick [0,1] (by decide) hS,h⟩
     ·refine wpIn_exit (A9<|A9<|Ay<|A2 ?_);exact ⟨hF.sub kr,St.pick [0,1] (by decide) hS,h⟩
    rintro a w ⟨hF,hS,h⟩;rw [Jv] at h;refine Ct (fun a w=>Fr 69 [] [] a∧St w0 [blk b5 50 (p0.ax ad1 cap2),fz w0 μ] w∧Jw=some res) ?_ ?_
    ·skip
     refine roB [(50,sv ad1 p0.Rays cap2),(51,iv (ln p0.Rays)),(52,iv 0)] hF (oL 48 0 10 hS.i rfl rfl<|A1) fun a hF=>?_;refine wpIn_block<|Cp (fun n_ a w=>∃(a1:Int),Fr 69 [] [(50,sv ad1 p0.Rays cap2),(51,iv (ln p0.Rays)),(52,iv a1)] a∧St w0 [blk b5 50 (p0.ax ad1 cap2),fz w0 μ] w∧Gg F p0 n_ a1=some res) F ⟨0,hF.sub kr,St.pick [0,1] (by decide) hS,h⟩ ?_;rintro nk3 a w ⟨a1,hF,hS,h⟩;rcases nk3 with _|nk3
     ·cases (show (none:Option Int)=some res from h)
     obtain ⟨k3,hk3⟩:∃k,k=Gg F p0 nk3:=⟨_,rfl⟩;replace h:Js F p0 k3 a1=some res:=by rw [hk3];exact h
     rw [Js] at h;refine qnB [(53,.bool (decide (a1<(ln p0.Rays))))] hF fun a hF=>?_;refine Ar<|A8 hF h (fun hc h=>?_) fun hc h=>?_
     ·refine wK<|Ct (fun a w=>Fr 69 [] [(50,sv ad1 p0.Rays cap2),(51,iv (ln p0.Rays)),(52,iv a1)] a∧St w0 [blk b5 50 (p0.ax ad1 cap2),fz w0 μ] w∧Jx a1 k3=some res) ?_ ?_
      ·skip
       refine wpIn_block<|esr ?_;obtain ⟨a2,aL,h⟩:=A0 h;obtain ⟨aR,aA,aJ⟩:=Aj hA4.2 aL;obtain ⟨a5,a6,rfl,a9⟩:=aJ;refine qo 3 3 [(7,sv a5 a2 a6)] hF (oI 48 (hA4.at (hS.frz (i:=1) rfl hlow)) aA<|oE 78 0 (At 1) (fun _ hd=>(hA4.at ((hS.at_ hd).frz (i:=1) rfl hlow))) aA rfl<|A1) fun a hF=>wfn rfl ?_;refine qnB [(56,sv a5 a2 a6),(57,iv (ln a2)),(58,iv 0)] hF fun a hF=>?_;refine wpIn_block<|Cp (fun n_ a w=>∃(a3:Int),Fr 69 [] [(50,sv ad1 p0.Rays cap2),(51,iv (ln p0.Rays)),(52,iv a1),(56,sv a5 a2 a6),(57,iv (ln a2)),(58,iv a3)] a∧St w0 [blk b5 50 (p0.ax ad1 cap2),fz w0 μ] w∧Gh F a1 k3 a2 n_ a3=some res) F ⟨0,hF.sub kr,St.pick [0,1] (by decide) hS,h⟩ ?_;rintro nk5 a w ⟨a3,hF,hS,h⟩;rcases nk5 with _|nk5
       ·cases (show (none:Option Int)=some res from h)
       obtain ⟨k5,hk5⟩:∃k,k=Gh F a1 k3 a2 nk5:=⟨_,rfl⟩;replace h:Jt F a1 k3 a2 k5 a3=some res:=by rw [hk5];exact h
       rw [Jt] at h;refine qnB [(59,.bool (decide (a3<(ln a2))))] hF fun a hF=>?_;refine Ar<|A8 hF h (fun hc h=>?_) fun hc h=>?_
       ·refine wK<|Ar<|wpIn_block<|esr ?_;obtain ⟨a0,aC,h⟩:=A0 h;refine qo 2 2 [(61,a0.ag)] hF (oI 78 (a9 _ (hS.frz (i:=1) rfl hlow)) aC<|oG 83 0 14 api_Echo.cells_len (fun _ hd=>(a9 _ ((hS.at_ hd).frz (i:=1) rfl hlow))) aC<|A1) fun a hF=>?_;refine SK.wi (qA 83 z83 (fun a8=>[(9,pb a8)]) hF hS fun a8 w a hF hS=>?_);refine SK.wi (qw 83 0 a0.ar hF hS rfl fun w a hF hS=>wfn rfl ?_);refine esr ?_;obtain ⟨a7,aQ,h⟩:=A0 h;refine qx 3 3 [(10,iv a7)] hF (oN 83 0 0 14 hS.e rfl<|oC (fun w2 hd=>So F (api_Echo.mk a0.Kind a0.Power ((api_Span.mk a0.Steps.1.Lo a0.Steps.1.Hi),(api_Span.mk a0.Steps.2.Lo a0.Steps.2.Hi)) a0.Spread a0.Ratio a0.Match a0.Turn) _ aQ _ w2 (A4 w2))<|A1) fun a w hF hx=>?_;replace hS:=hS.later hx;refine wfn rfl ?_;refine qnB [(65,.bool (a7 != 0))] hF fun a hF=>?_;refine A8 hF h (fun hc h=>?_) fun hc h=>?_
        ·refine rnB [(2,iv a7)] hF fun a hF=>?_;refine wpIn_ret (Ab<|A6<|A6<|Ab<|Ab<|A6<|A6<|Ab<|A6<|A7 [.tmp 2] [_] hF rfl ⟨rfl,trivial⟩ ?_);obtain rfl:=Ad h;exact ⟨rfl,hS.ext⟩
        ·refine wpIn_skip (A5<|A2<|?_);refine WI.region ?_;obtain ⟨aF,aO,h⟩:=A0 h;refine ro 2 2 [(50,sv ad1 p0.Rays cap2),(51,iv (ln p0.Rays)),(52,iv a1),(56,sv a5 a2 a6),(57,iv (ln a2)),(58,iv aF)] hF (oA 3 aO<|A1) fun a hF=>wfn rfl ?_;rw [hk5] at h;exact ⟨nk5,Nat.lt_succ_self _,aF,hF.sub kr,St.pick [1,2] (by decide) hS,h⟩
       ·refine wpIn_exit (A9<|A9<|Ay<|A5<|A2<|?_);exact ⟨hF.sub kr,St.pick [0,1] (by decide) hS,h⟩
      rintro a w ⟨hF,hS,h⟩;rw [Jx] at h;refine WI.region ?_;obtain ⟨aE,aN,h⟩:=A0 h;refine ro 2 2 [(50,sv ad1 p0.Rays cap2),(51,iv (ln p0.Rays)),(52,iv aE)] hF (oA 3 aN<|A1) fun a hF=>wfn rfl ?_;rw [hk3] at h;exact ⟨nk3,Nat.lt_succ_self _,aE,hF.sub kr,St.pick [0,1] (by decide) hS,h⟩
     ·refine wpIn_exit (A9<|A9<|Ay<|A2 ?_);exact ⟨hF.sub kr,St.pick [0,1] (by decide) hS,h⟩
    rintro a w ⟨hF,hS,h⟩;rw [Jw] at h;refine rnB [(2,iv 0)] hF fun a hF=>?_;refine wpIn_ret (A7 [.tmp 2] [_] hF rfl ⟨rfl,trivial⟩ ?_);obtain rfl:=Ad h;exact ⟨rfl,hS.ext⟩
end Go.Proofs.YtkjnafecmjakcaaGreatDoor
