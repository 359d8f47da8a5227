import Derived.Test.YtifbomimeodibaaGreatV5XD
import Derived.Test.YtifbomimeodibaaGreatProg
namespace Go.Proofs.YtifbomimeodibaaGreat
open Go Go.RowKit Go.Eng
set_option maxRecDepth 10000
set_option maxHeartbeats 4000000
set_option linter.unusedVariables false
set_option linter.unusedSimpArgs false
theorem Qz (p0:(List Int)) (p1:(List Int)) (res:Bool) (h:Gy p0 p1=res) (μ:Frz) (w0:World) (hm:FrzAt μ w0) {ad1:Option Addr} {cap2:Nat} {ad4:Option Addr} {cap5:Nat} (hA3:ArrM μ 1 (fK .u8) ad1 cap2 p0) (hA6:ArrM μ 1 (fK .u8) ad4 cap5 p1):Calls Tryz.prog 59 #[sv ad1 p0 cap2,sv ad4 p1 cap5] w0 (fun e w=>e=.returned (.bool res)∧Ext w0 w):=by
 obtain ⟨hlow,hS⟩:=hm.init
 have hext:=Frz.ext_refl w0.heap.size μ
 rw [Gy] at h
 refine feW Tryz.func59 10 [(0,sv ad1 p0 cap2),(1,sv ad4 p1 cap5)] hS fun a w hF hS=>?_
 refine qnB [] hF fun a hF=>?_
 refine roB [(4,.bool (sEq (bst p0) (bst p1)))] hF (oX (.run [] (convert 22 9 (sv ad1 p0 cap2)) (.string (bst p0))) (Xq kr kr (fun _ hd=>(hA3 _ ((hS.at_ hd).frz (i:=0) rfl hlow))))<|oX (.run [] (convert 22 9 (sv ad4 p1 cap5)) (.string (bst p1))) (Xq kr kr (fun _ hd=>(hA6 _ ((hS.at_ hd).frz (i:=0) rfl hlow))))<|oX (.run [] (Qs .eql 9 (bst p0) (bst p1)) (.bool (sEq (bst p0) (bst p1)))) A1n<|A1) fun a hF=>?_
 refine wpIn_ret (A7 [.tmp 4] [_] hF rfl ⟨rfl,trivial⟩ ?_)
 subst h
 exact ⟨rfl,hS.ext⟩
theorem Nc (F:Nat) (p0:(List Int)) (p1:(List Int)) (res:Bool) (h:Js F p0 p1=some res) (μ:Frz) (w0:World) (hm:FrzAt μ w0) {ad1:Option Addr} {cap2:Nat} {ad4:Option Addr} {cap5:Nat} (hA3:ArrM μ 1 (fK .u8) ad1 cap2 p0) (hA6:ArrM μ 1 (fK .u8) ad4 cap5 p1):Calls Tryz.prog 18 #[sv ad1 p0 cap2,sv ad4 p1 cap5] w0 (fun e w=>e=.returned (.bool res)∧Ext w0 w):=by
 obtain ⟨hlow,hS⟩:=hm.init
 have hext:=Frz.ext_refl w0.heap.size μ
 rw [Js] at h
 refine feW Tryz.func18 26 [(0,sv ad1 p0 cap2),(1,sv ad4 p1 cap5)] hS fun a w hF hS=>?_
 refine qnB [] hF fun a hF=>?_
 refine Am<|qnB [(10,.bool ((ln p0) != (ln p1)))] hF fun a hF=>?_
 refine A8 hF h (fun hc h=>?_) fun hc h=>?_
 ·refine rnB [(4,.bool false)] hF fun a hF=>?_
  refine wpIn_ret (A2<|A7 [.tmp 4] [_] hF rfl ⟨rfl,trivial⟩ ?_)
  obtain rfl:=Ae h
  exact ⟨rfl,hS.ext⟩
 ·refine wK<|Dx (fun a w=>Fr 26 [] [] a∧St w0 [fz w0 μ] w∧L5=some res) ?_ ?_
  ·skip
   refine qnB [(5,iv 0)] hF fun a hF=>?_
   refine wpIn_block<|Ck (fun n_ a w=>∃(a0:Int),Fr 26 [] [(0,sv ad1 p0 cap2),(1,sv ad4 p1 cap5),(5,iv a0)] a∧St w0 [fz w0 μ] w∧Hm p0 p1 n_ a0=some res) F ⟨0,hF.sub kr,St.pick [0] (by decide) hS,h⟩ ?_
   rintro nk2 a w ⟨a0,hF,hS,h⟩
   rcases nk2 with _|nk2
   ·cases (show (none:Option Bool)=some res from h)
   obtain ⟨k2,hk2⟩:∃k,k=Hm p0 p1 nk2:=⟨_,rfl⟩
   replace h:L4 p0 p1 k2 a0=some res:=by rw [hk2];exact h
   rw [L4] at h
   refine Am<|qnB [(14,.bool (decide (a0<(ln p0))))] hF fun a hF=>?_
   refine A8 hF h (fun hc h=>?_) fun hc h=>?_
   ·refine wK<|Am<|wpIn_block<|Am ?_
    obtain ⟨a5,a1,h⟩:=A0 h
    obtain ⟨a6,a2,h⟩:=A0 h
    refine qD 9 [(25,.bool (a5 != a6))] hF (oI 22 (hA3 _ (hS.frz (i:=0) rfl hlow)) a1<|oE 5 0 (B8 .u8) (fun _ hd=>(hA3 _ ((hS.later hd).frz (i:=0) rfl hlow))) a1 rfl<|oI 22 (hA6 _ (hS.frz (i:=0) rfl hlow)) a2<|oE 5 0 (B8 .u8) (fun _ hd=>(hA6 _ ((hS.later hd).frz (i:=0) rfl hlow))) a2 rfl<|A1) fun a w hF hx=>?_
    replace hS:=hS.later hx
    refine wfn rfl ?_
    refine A8 hF h (fun hc h=>?_) fun hc h=>?_
    ·refine rnB [(4,.bool false)] hF fun a hF=>?_
     refine wpIn_ret (Ab<|A2<|A2<|Ab<|A2<|A7 [.tmp 4] [_] hF rfl ⟨rfl,trivial⟩ ?_)
     obtain rfl:=Ae h
     exact ⟨rfl,hS.ext⟩
    ·refine wpIn_skip (A9<|A3<|?_)
     refine WI.region ?_
     obtain ⟨a3,a4,h⟩:=A0 h
     refine ro 3 3 [(0,sv ad1 p0 cap2),(1,sv ad4 p1 cap5),(5,iv a3)] hF (oA 3 a4<|A1) fun a hF=>wfn rfl ?_
     rw [hk2] at h
     exact ⟨nk2,Nat.lt_succ_self _,a3,hF.sub kr,St.pick [0] (by decide) hS,h⟩
   ·refine wpIn_exit (A5<|A5<|Ar<|A3 ?_)
    exact ⟨hF.sub kr,St.pick [0] (by decide) hS,h⟩
  rintro a w ⟨hF,hS,h⟩
  rw [L5] at h
  refine rnB [(4,.bool true)] hF fun a hF=>?_
  refine wpIn_ret (A7 [.tmp 4] [_] hF rfl ⟨rfl,trivial⟩ ?_)
  obtain rfl:=Ae h
  exact ⟨rfl,hS.ext⟩
theorem V8 (F:Nat) (p0:api_Sweep) (p1:api_Sweep) (res:Bool) (h:R2 F p0 p1=some res) (μ:Frz) (w0:World) (hm:FrzAt μ w0) {ad1:Option Addr} {cap2:Nat} {css3:List (List Value)} {ad5:Option Addr} {cap6:Nat} {css7:List (List Value)} (hA4:ArrQ μ 1 Rp87 ad1 cap2 css3 p0.Rays) (hA8:ArrQ μ 1 Rp87 ad5 cap6 css7 p1.Rays):Calls Tryz.prog 60 #[.agg (p0.ax ad1 cap2),.agg (p1.ax ad5 cap6)] w0 (fun e w=>e=.returned (.bool res)∧Ext w0 w):=by
 obtain ⟨hlow,hS⟩:=hm.init
 have hext:=Frz.ext_refl w0.heap.size μ
 rw [R2] at h
 refine feW Tryz.func60 82 [(0,.agg (p0.ax ad1 cap2)),(1,.agg (p1.ax ad5 cap6))] hS fun a w hF hS=>?_
 refine esr<|SK.wi (qBa 41 (p0.ax ad1 cap2) (fun b9=>[(2,pb b9)]) hF hS fun b9 w a hF hS=>?_)
 refine SK.wi (qBa 41 (p1.ax ad5 cap6) (fun a3=>[(3,pb a3)]) hF hS fun a3 w a hF hS=>?_)
 refine qn 1 3 [] hF fun a hF=>wfn rfl ?_
 refine Am<|qoB [(34,.bool (bif (bif (bif (!((p0.Site.Name==p1.Site.Name)&&(((p0.Site.X:Int)==p1.Site.X)&&(((p0.Site.Y:Int)==p1.Site.Y)&&(((p0.Site.Z:Int)==p1.Site.Z)&&(((p0.Site.Rose:Int)==p1.Site.Rose)&&(((p0.Site.Gates:Int)==p1.Site.Gates)&&(((p0.Site.Step:Int)==p1.Site.Step)&&(((p0.Site.Width:Int)==p1.Site.Width)&&true))))))))) then true else (p0.Tilt != p1.Tilt)) then true else (p0.Time != p1.Time)) then true else ((ln p0.Rays) != (ln p1.Rays))))] hF (oN 38 1 0 8 hS.i rfl<|oN 38 0 0 8 hS.i rfl<|oX (.run [] (eqS .neq 38 p0.Site.ar p1.Site.ar) (.bool (!((p0.Site.Name==p1.Site.Name)&&(((p0.Site.X:Int)==p1.Site.X)&&(((p0.Site.Y:Int)==p1.Site.Y)&&(((p0.Site.Z:Int)==p1.Site.Z)&&(((p0.Site.Rose:Int)==p1.Site.Rose)&&(((p0.Site.Gates:Int)==p1.Site.Gates)&&(((p0.Site.Step:Int)==p1.Site.Step)&&(((p0.Site.Width:Int)==p1.Site.Width)&&true))))))))))) (Qq kr kr)<|oGs [⟨12,false,(!((p0.Site.Name==p1.Site.Name)&&(((p0.Site.X:Int)==p1.Site.X)&&(((p0.Site.Y:Int)==p1.Site.Y)&&(((p0.Site.Z:Int)==p1.Site.Z)&&(((p0.Site.Rose:Int)==p1.Site.Rose)&&(((p0.Site.Gates:Int)==p1.Site.Gates)&&(((p0.Site.Step:Int)==p1.Site.Step)&&(((p0.Site.Width:Int)==p1.Site.Width)&&true)))))))))⟩] (oL 3 1 8 hS.i rfl rfl<|oL 3 0 8 hS.i rfl rfl<|A1)<|oGs [⟨19,false,(bif (!((p0.Site.Name==p1.Site.Name)&&(((p0.Site.X:Int)==p1.Site.X)&&(((p0.Site.Y:Int)==p1.Site.Y)&&(((p0.Site.Z:Int)==p1.Site.Z)&&(((p0.Site.Rose:Int)==p1.Site.Rose)&&(((p0.Site.Gates:Int)==p1.Site.Gates)&&(((p0.Site.Step:Int)==p1.Site.Step)&&(((p0.Site.Width:Int)==p1.Site.Width)&&true))))))))) then true else (p0.Tilt != p1.Tilt))⟩] (oL 3 1 9 hS.i rfl rfl<|oL 3 0 9 hS.i rfl rfl<|A1)<|oGs [⟨26,false,(bif (bif (!((p0.Site.Name==p1.Site.Name)&&(((p0.Site.X:Int)==p1.Site.X)&&(((p0.Site.Y:Int)==p1.Site.Y)&&(((p0.Site.Z:Int)==p1.Site.Z)&&(((p0.Site.Rose:Int)==p1.Site.Rose)&&(((p0.Site.Gates:Int)==p1.Site.Gates)&&(((p0.Site.Step:Int)==p1.Site.Step)&&(((p0.Site.Width:Int)==p1.Site.Width)&&true))))))))) then true else (p0.Tilt != p1.Tilt)) then true else (p0.Time != p1.Time))⟩] (oL 39 1 10 hS.i rfl rfl<|oL 39 0 10 hS.i rfl rfl<|A1)<|A1) fun a hF=>?_
 refine A8 hF h (fun hc h=>?_) fun hc h=>?_
 ·refine rnB [(4,.bool false)] hF fun a hF=>?_
  refine wpIn_ret (A2<|A7 [.tmp 4] [_] hF rfl ⟨rfl,trivial⟩ ?_)
  obtain rfl:=Ae h
  exact ⟨rfl,hS.ext⟩
 ·refine wK<|Dx (fun a w=>Fr 82 [] [] a∧St w0 [blk a3 41 (p1.ax ad5 cap6),blk b9 41 (p0.ax ad1 cap2),fz w0 μ] w∧Ni=some res) ?_ ?_
  ·skip
   refine qnB [(5,iv 0)] hF fun a hF=>?_
   refine wpIn_block<|Ck (fun n_ a w=>∃(a2:Int),Fr 82 [] [(2,pb b9),(3,pb a3),(5,iv a2)] a∧St w0 [blk a3 41 (p1.ax ad5 cap6),blk b9 41 (p0.ax ad1 cap2),fz w0 μ] w∧L8 F p0 p1 n_ a2=some res) F ⟨0,hF.sub kr,St.pick [0,1,2] (by decide) hS,h⟩ ?_
   rintro nk2 a w ⟨a2,hF,hS,h⟩
   rcases nk2 with _|nk2
   ·cases (show (none:Option Bool)=some res from h)
   obtain ⟨k2,hk2⟩:∃k,k=L8 F p0 p1 nk2:=⟨_,rfl⟩
   replace h:Ng F p0 p1 k2 a2=some res:=by rw [hk2];exact h
   rw [Ng] at h
   refine Am<|qoB [(39,.bool (decide (a2<(ln p0.Rays))))] hF (oL 39 1 10 hS.i rfl rfl<|A1) fun a hF=>?_
   refine A8 hF h (fun hc h=>?_) fun hc h=>?_
   ·refine wK<|Dx (fun a w=>Fr 82 [] [(2,pb b9),(3,pb a3),(5,iv a2)] a∧St w0 [blk a3 41 (p1.ax ad5 cap6),blk b9 41 (p0.ax ad1 cap2),fz w0 μ] w∧Nj a2 k2=some res) ?_ ?_
    ·skip
     refine wpIn_block<|Am<|Am ?_
     obtain ⟨aS,aL,h⟩:=A0 h
     obtain ⟨b5,a7,aG⟩:=Cw hA4.2 aL
     obtain ⟨aV,b0,rfl,bB⟩:=aG
     obtain ⟨aT,aM,h⟩:=A0 h
     obtain ⟨b6,a8,aH⟩:=Cw hA8.2 aM
     obtain ⟨aW,b1,rfl,bC⟩:=aH
     refine qD 13 [(54,.bool ((ln aS) != (ln aT)))] hF (oL 39 1 10 hS.e rfl rfl<|oI 39 (hA4.at (hS.frz (i:=2) rfl hlow)) a7<|oE 87 0 (Dg 1) (fun _ hd=>(hA4.at ((hS.later hd).frz (i:=2) rfl hlow))) a7 rfl<|oL 39 0 10 hS.e rfl rfl<|oI 39 (hA8.at (hS.frz (i:=2) rfl hlow)) a8<|oE 87 0 (Dg 1) (fun _ hd=>(hA8.at ((hS.later hd).frz (i:=2) rfl hlow))) a8 rfl<|A1) fun a w hF hx=>?_
     replace hS:=hS.later hx
     refine wfn rfl ?_
     refine A8 hF h (fun hc h=>?_) fun hc h=>?_
     ·refine rnB [(4,.bool false)] hF fun a hF=>?_
      refine wpIn_ret (A2<|Ab<|A2<|A2<|Ab<|A2<|A7 [.tmp 4] [_] hF rfl ⟨rfl,trivial⟩ ?_)
      obtain rfl:=Ae h
      exact ⟨rfl,hS.ext⟩
     ·refine wK<|qnB [(6,iv 0)] hF fun a hF=>?_
      refine wpIn_block<|Ck (fun n_ a w=>∃(a4:Int),Fr 82 [] [(2,pb b9),(3,pb a3),(5,iv a2),(6,iv a4)] a∧St w0 [blk a3 41 (p1.ax ad5 cap6),blk b9 41 (p0.ax ad1 cap2),fz w0 μ] w∧L9 p0 p1 a2 k2 n_ a4=some res) F ⟨0,hF.sub kr,St.pick [0,1,2] (by decide) hS,h⟩ ?_
      rintro nk4 a w ⟨a4,hF,hS,h⟩
      rcases nk4 with _|nk4
      ·cases (show (none:Option Bool)=some res from h)
      obtain ⟨k4,hk4⟩:∃k,k=L9 p0 p1 a2 k2 nk4:=⟨_,rfl⟩
      replace h:Nh p0 p1 a2 k2 k4 a4=some res:=by rw [hk4];exact h
      rw [Nh] at h
      refine Am<|esr ?_
      obtain ⟨aU,aN,h⟩:=A0 h
      obtain ⟨b7,a9,aI⟩:=Cw hA4.2 aN
      obtain ⟨aX,b2,rfl,bD⟩:=aI
      refine qo 8 8 [(62,.bool (decide (a4<(ln aU))))] hF (oL 39 1 10 hS.i rfl rfl<|oI 39 (hA4.at (hS.frz (i:=2) rfl hlow)) a9<|oE 87 0 (Dg 1) (fun _ hd=>(hA4.at ((hS.at_ hd).frz (i:=2) rfl hlow))) a9 rfl<|A1) fun a hF=>wfn rfl ?_
      refine A8 hF h (fun hc h=>?_) fun hc h=>?_
      ·refine wK<|Am<|wpIn_block<|Am ?_
       obtain ⟨bE,aO,h⟩:=A0 h
       obtain ⟨b8,aA,aJ⟩:=Cw hA4.2 aO
       obtain ⟨aY,b3,rfl,a5⟩:=aJ
       obtain ⟨a0,aC,h⟩:=A0 h
       obtain ⟨bF,aP,h⟩:=A0 h
       obtain ⟨bA,aB,aK⟩:=Cw hA8.2 aP
       obtain ⟨aZ,b4,rfl,a6⟩:=aK
       obtain ⟨a1,aD,h⟩:=A0 h
       refine qD 17 [(81,.bool (!(((a0.Kind:Int)==a1.Kind)&&((((a0.Power.Lo:Int)==a1.Power.Lo)&&(((a0.Power.Hi:Int)==a1.Power.Hi)&&true))&&(((((a0.Steps.1.Lo:Int)==a1.Steps.1.Lo)&&(((a0.Steps.1.Hi:Int)==a1.Steps.1.Hi)&&true))&&((((a0.Steps.2.Lo:Int)==a1.Steps.2.Lo)&&(((a0.Steps.2.Hi:Int)==a1.Steps.2.Hi)&&true))&&true))&&(((a0.Spread:Int)==a1.Spread)&&((((a0.Ratio.Lo:Int)==a1.Ratio.Lo)&&(((a0.Ratio.Hi:Int)==a1.Ratio.Hi)&&true))&&((((a0.Match.Lo:Int)==a1.Match.Lo)&&(((a0.Match.Hi:Int)==a1.Match.Hi)&&true))&&((((a0.Turn.Lo:Int)==a1.Turn.Lo)&&(((a0.Turn.Hi:Int)==a1.Turn.Hi)&&true))&&true)))))))))] hF (oL 39 1 10 hS.e rfl rfl<|oI 39 (hA4.at (hS.frz (i:=2) rfl hlow)) aA<|oE 87 0 (Dg 1) (fun _ hd=>(hA4.at ((hS.later hd).frz (i:=2) rfl hlow))) aA rfl<|oI 87 (a5 _ (hS.frz (i:=2) rfl hlow)) aC<|oG 149 0 14 api_Echo.cells_len (fun _ hd=>(a5 _ ((hS.later hd).frz (i:=2) rfl hlow))) aC<|oL 39 0 10 hS.e rfl rfl<|oI 39 (hA8.at (hS.frz (i:=2) rfl hlow)) aB<|oE 87 0 (Dg 1) (fun _ hd=>(hA8.at ((hS.later hd).frz (i:=2) rfl hlow))) aB rfl<|oI 87 (a6 _ (hS.frz (i:=2) rfl hlow)) aD<|oG 149 0 14 api_Echo.cells_len (fun _ hd=>(a6 _ ((hS.later hd).frz (i:=2) rfl hlow))) aD<|oX (.run [] (eqS .neq 149 a0.ar a1.ar) (.bool (!(((a0.Kind:Int)==a1.Kind)&&((((a0.Power.Lo:Int)==a1.Power.Lo)&&(((a0.Power.Hi:Int)==a1.Power.Hi)&&true))&&(((((a0.Steps.1.Lo:Int)==a1.Steps.1.Lo)&&(((a0.Steps.1.Hi:Int)==a1.Steps.1.Hi)&&true))&&((((a0.Steps.2.Lo:Int)==a1.Steps.2.Lo)&&(((a0.Steps.2.Hi:Int)==a1.Steps.2.Hi)&&true))&&true))&&(((a0.Spread:Int)==a1.Spread)&&((((a0.Ratio.Lo:Int)==a1.Ratio.Lo)&&(((a0.Ratio.Hi:Int)==a1.Ratio.Hi)&&true))&&((((a0.Match.Lo:Int)==a1.Match.Lo)&&(((a0.Match.Hi:Int)==a1.Match.Hi)&&true))&&((((a0.Turn.Lo:Int)==a1.Turn.Lo)&&(((a0.Turn.Hi:Int)==a1.Turn.Hi)&&true))&&true)))))))))) (Qq kr kr)<|A1) fun a w hF hx=>?_
       replace hS:=hS.later hx
       refine wfn rfl ?_
       refine A8 hF h (fun hc h=>?_) fun hc h=>?_
       ·refine rnB [(4,.bool false)] hF fun a hF=>?_
        refine wpIn_ret (Ab<|A2<|A2<|Ab<|Ab<|A2<|A2<|Ab<|A2<|A7 [.tmp 4] [_] hF rfl ⟨rfl,trivial⟩ ?_)
        obtain rfl:=Ae h
        exact ⟨rfl,hS.ext⟩
       ·refine wpIn_skip (A9<|A3<|?_)
        refine WI.region ?_
        obtain ⟨aF,aR,h⟩:=A0 h
        refine ro 3 3 [(2,pb b9),(3,pb a3),(5,iv a2),(6,iv aF)] hF (oA 3 aR<|A1) fun a hF=>wfn rfl ?_
        rw [hk4] at h
        exact ⟨nk4,Nat.lt_succ_self _,aF,hF.sub kr,St.pick [0,1,2] (by decide) hS,h⟩
      ·refine wpIn_exit (A5<|A5<|Ar<|A9<|A3<|?_)
       exact ⟨hF.sub kr,St.pick [0,1,2] (by decide) hS,h⟩
    rintro a w ⟨hF,hS,h⟩
    rw [Nj] at h
    refine WI.region ?_
    obtain ⟨aE,aQ,h⟩:=A0 h
    refine ro 3 3 [(2,pb b9),(3,pb a3),(5,iv aE)] hF (oA 3 aQ<|A1) fun a hF=>wfn rfl ?_
    rw [hk2] at h
    exact ⟨nk2,Nat.lt_succ_self _,aE,hF.sub kr,St.pick [0,1,2] (by decide) hS,h⟩
   ·refine wpIn_exit (A5<|A5<|Ar<|A3 ?_)
    exact ⟨hF.sub kr,St.pick [0,1,2] (by decide) hS,h⟩
  rintro a w ⟨hF,hS,h⟩
  rw [Ni] at h
  refine rnB [(4,.bool true)] hF fun a hF=>?_
  refine wpIn_ret (A7 [.tmp 4] [_] hF rfl ⟨rfl,trivial⟩ ?_)
  obtain rfl:=Ae h
  exact ⟨rfl,hS.ext⟩
theorem Wz (F:Nat) (p0:(List Int)) (p1:Int) (res:Int) (h:Rt F p0 p1=some res) (μ:Frz) (w0:World) (hm:FrzAt μ w0) {ad1:Option Addr} {cap2:Nat} (hA3:ArrM μ 1 (fK .u8) ad1 cap2 p0):Calls Tryz.prog 38 #[sv ad1 p0 cap2,iv p1] w0 (fun e w=>e=.returned (iv res)∧Ext w0 w):=by
 obtain ⟨hlow,hS⟩:=hm.init
 have hext:=Frz.ext_refl w0.heap.size μ
 rw [Rt] at h
 refine feW Tryz.func38 19 [(0,sv ad1 p0 cap2),(1,iv p1)] hS fun a w hF hS=>?_
 refine qnB [] hF fun a hF=>?_
 refine Dx (fun a w=>∃(a1:Int),Fr 19 [] [(1,iv a1)] a∧St w0 [fz w0 μ] w∧Qg a1=some res) ?_ ?_
 ·skip
  refine wpIn_block<|Ck (fun n_ a w=>∃(a0:Int),Fr 19 [] [(0,sv ad1 p0 cap2),(1,iv a0)] a∧St w0 [fz w0 μ] w∧K9 p0 n_ a0=some res) F ⟨p1,hF.sub kr,St.pick [0] (by decide) hS,h⟩ ?_
  rintro nk2 a w ⟨a0,hF,hS,h⟩
  rcases nk2 with _|nk2
  ·cases (show (none:Option Int)=some res from h)
  obtain ⟨k2,hk2⟩:∃k,k=K9 p0 nk2:=⟨_,rfl⟩
  replace h:Mx p0 k2 a0=some res:=by rw [hk2];exact h
  rw [Mx] at h
  refine Am<|esr ?_
  obtain ⟨a3,a2,h⟩:=A0 h
  refine qo 11 11 [(15,.bool (bif (decide (a0<(ln p0))) then (a3 != 0) else false))] hF (oX (.run [⟨9,true,(decide (a0<(ln p0)))⟩] (Instr.indexAt 22 (sv ad1 p0 cap2) (iv a0)) (.pointer (some (Bl ad1 a0 1)))) (J0 (hA3 _ (hS.frz (i:=0) rfl hlow)) kr (fun hk=>Bt a2 hk))<|oX (.run [⟨9,true,(decide (a0<(ln p0)))⟩] (Instr.loadAt 5 (.pointer (some (Bl ad1 a0 1)))) (.int .u8 a3)) (Pf (i:=a0) 0 (B8 .u8) (fun _ hd=>(hA3 _ ((hS.at_ hd).frz (i:=0) rfl hlow))) kr (fun hk=>Bt a2 hk) rfl)<|A1) fun a hF=>wfn rfl ?_
  refine A8 hF h (fun hc h=>?_) fun hc h=>?_
  ·refine wK<|wpIn_block<|WI.region ?_
   obtain ⟨a4,a5,h⟩:=A0 h
   refine ro 3 3 [(0,sv ad1 p0 cap2),(1,iv a4)] hF (oA 3 a5<|A1) fun a hF=>WI.fin rfl (A9<|A3<|?_)
   rw [hk2] at h
   exact ⟨nk2,Nat.lt_succ_self _,a4,hF.sub kr,St.pick [0] (by decide) hS,h⟩
  ·refine wpIn_exit (A5<|A5<|Ar<|A3 ?_)
   exact ⟨a0,hF.sub kr,St.pick [0] (by decide) hS,h⟩
 rintro a w ⟨a1,hF,hS,h⟩
 rw [Qg] at h
 refine rnB [(4,iv a1)] hF fun a hF=>?_
 refine wpIn_ret (A7 [.tmp 4] [_] hF rfl ⟨rfl,trivial⟩ ?_)
 obtain rfl:=Ae h
 exact ⟨rfl,hS.ext⟩
theorem Ty (p0:api_Sweep) (res:Bool) (h:Cj p0=res) (μ:Frz) (w0:World) (hm:FrzAt μ w0) {ad1:Option Addr} {cap2:Nat} {css3:List (List Value)} (hA4:ArrQ μ 1 Rp87 ad1 cap2 css3 p0.Rays):Calls Tryz.prog 44 #[.agg (p0.ax ad1 cap2)] w0 (fun e w=>e=.returned (.bool res)∧Ext w0 w):=by
 obtain ⟨hlow,hS⟩:=hm.init
 have hext:=Frz.ext_refl w0.heap.size μ
 rw [Cj] at h
 refine feW Tryz.func44 23 [(0,.agg (p0.ax ad1 cap2))] hS fun a w hF hS=>?_
 refine esr<|SK.wi (qBa 41 (p0.ax ad1 cap2) (fun b5=>[(1,pb b5)]) hF hS fun b5 w a hF hS=>?_)
 refine qn 1 2 [] hF fun a hF=>wfn rfl ?_
 refine roB [(2,.bool (bif (bif (bif p0.Site.e0 then (p0.Tilt==0) else false) then (p0.Time==0) else false) then ((ln p0.Rays)==0) else false))] hF (oN 38 0 0 8 hS.i rfl<|oX (.run [] (eqS .eql 38 p0.Site.ar z38) (.bool p0.Site.e0)) (La kr kr)<|oGs [⟨7,true,p0.Site.e0⟩] (oL 3 0 8 hS.i rfl rfl<|A1)<|oGs [⟨12,true,(bif p0.Site.e0 then (p0.Tilt==0) else false)⟩] (oL 3 0 9 hS.i rfl rfl<|A1)<|oGs [⟨17,true,(bif (bif p0.Site.e0 then (p0.Tilt==0) else false) then (p0.Time==0) else false)⟩] (oL 39 0 10 hS.i rfl rfl<|A1)<|A1) fun a hF=>?_
 refine wpIn_ret (A7 [.tmp 2] [_] hF rfl ⟨rfl,trivial⟩ ?_)
 subst h
 exact ⟨rfl,hS.ext⟩
theorem Tx (p0:api_Field) (res:Bool) (h:Dc p0=res) (μ:Frz) (w0:World) (hm:FrzAt μ w0) {ad1:Option Addr} {cap2:Nat} (hA3:ArrM μ 2 api_Span.cells ad1 cap2 p0.Vals):Calls Tryz.prog 45 #[.agg (p0.ax ad1 cap2)] w0 (fun e w=>e=.returned (.bool res)∧Ext w0 w):=by
 obtain ⟨hlow,hS⟩:=hm.init
 have hext:=Frz.ext_refl w0.heap.size μ
 rw [Dc] at h
 refine feW Tryz.func45 13 [(0,.agg (p0.ax ad1 cap2))] hS fun a w hF hS=>?_
 refine esr<|SK.wi (qBa 46 (p0.ax ad1 cap2) (fun b4=>[(1,pb b4)]) hF hS fun b4 w a hF hS=>?_)
 refine qn 1 2 [] hF fun a hF=>wfn rfl ?_
 refine roB [(2,.bool (bif p0.Grid.e0 then ((ln p0.Vals)==0) else false))] hF (oN 43 0 0 5 hS.i rfl<|oX (.run [] (eqS .eql 43 p0.Grid.ar z43) (.bool p0.Grid.e0)) (La kr kr)<|oGs [⟨7,true,p0.Grid.e0⟩] (oL 44 0 5 hS.i rfl rfl<|A1)<|A1) fun a hF=>?_
 refine wpIn_ret (A7 [.tmp 2] [_] hF rfl ⟨rfl,trivial⟩ ?_)
 subst h
 exact ⟨rfl,hS.ext⟩
theorem Cn (p0:Int) (p1:Int) (p2:Int) (res:Bool) (h:Ag p0 p1 p2=res) (μ:Frz) (w0:World) (hm:FrzAt μ w0):Calls Tryz.prog 46 #[iv p0,iv p1,iv p2] w0 (fun e w=>e=.returned (.bool res)∧Ext w0 w):=by
 obtain ⟨hlow,hS⟩:=hm.init
 have hext:=Frz.ext_refl w0.heap.size μ
 rw [Ag] at h
 refine feW Tryz.func46 15 [(0,iv p0),(1,iv p1),(2,iv p2)] hS fun a w hF hS=>?_
 refine qnB [] hF fun a hF=>?_
 refine rnB [(6,.bool (bif (decide (p0≥p1)) then (decide (p0≤p2)) else false))] hF fun a hF=>?_
 refine wpIn_ret (A7 [.tmp 6] [_] hF rfl ⟨rfl,trivial⟩ ?_)
 subst h
 exact ⟨rfl,hS.ext⟩
theorem S3 (F:Nat) (p0:ByteArray) (res:Bool) (h:Ju F p0=some res) (μ:Frz) (w0:World) (hm:FrzAt μ w0):Calls Tryz.prog 48 #[.string p0] w0 (fun e w=>e=.returned (.bool res)∧Ext w0 w):=by
 obtain ⟨hlow,hS⟩:=hm.init
 have hext:=Frz.ext_refl w0.heap.size μ
 rw [Ju] at h
 refine feW Tryz.func48 50 [(0,.string p0)] hS fun a w hF hS=>?_
 refine qnB [] hF fun a hF=>?_
 refine Am<|esr ?_
 obtain ⟨u1,hu1,h⟩:=A0 h
 obtain ⟨u2,hu2,h⟩:=A0 h
 refine qo 18 18 [(22,.bool (bif (bif (bif (decide (((p0.size:Nat):Int)<1)) then true else (decide (((p0.size:Nat):Int)>12))) then true else (decide (u1<97))) then true else (decide (u2>122))))] hF (oX (.run [⟨13,false,(bif (decide (((p0.size:Nat):Int)<1)) then true else (decide (((p0.size:Nat):Int)>12)))⟩] (Instr.index 9 (.string p0) (iv 0)) (.int .u8 u1)) (Sg kr (fun hk=>Bt hu1 hk))<|oX (.run [⟨18,false,(bif (bif (decide (((p0.size:Nat):Int)<1)) then true else (decide (((p0.size:Nat):Int)>12))) then true else (decide (u1<97)))⟩] (Instr.index 9 (.string p0) (iv 0)) (.int .u8 u2)) (Sg kr (fun hk=>Bt hu2 hk))<|A1) fun a hF=>wfn rfl ?_
 refine A8 hF h (fun hc h=>?_) fun hc h=>?_
 ·refine rnB [(2,.bool false)] hF fun a hF=>?_
  refine wpIn_ret (A2<|A7 [.tmp 2] [_] hF rfl ⟨rfl,trivial⟩ ?_)
  obtain rfl:=Ae h
  exact ⟨rfl,hS.ext⟩
 ·refine wK<|Dx (fun a w=>Fr 50 [] [] a∧St w0 [fz w0 μ] w∧M9=some res) ?_ ?_
  ·skip
   refine qnB [(3,iv 0)] hF fun a hF=>?_
   refine wpIn_block<|Ck (fun n_ a w=>∃(a1:Int),Fr 50 [] [(0,.string p0),(3,iv a1)] a∧St w0 [fz w0 μ] w∧Jf p0 n_ a1=some res) F ⟨0,hF.sub kr,St.pick [0] (by decide) hS,h⟩ ?_
   rintro nk2 a w ⟨a1,hF,hS,h⟩
   rcases nk2 with _|nk2
   ·cases (show (none:Option Bool)=some res from h)
   obtain ⟨k2,hk2⟩:∃k,k=Jf p0 nk2:=⟨_,rfl⟩
   replace h:M8 p0 k2 a1=some res:=by rw [hk2];exact h
   rw [M8] at h
   refine Am<|qnB [(26,.bool (decide (a1<((p0.size:Nat):Int))))] hF fun a hF=>?_
   refine A8 hF h (fun hc h=>?_) fun hc h=>?_
   ·refine wK<|Am<|wpIn_block<|esr ?_
    obtain ⟨a0,a3,h⟩:=A0 h
    refine qo 4 4 [(4,.int .u8 a0)] hF (oX (.run [] (Instr.index 9 (.string p0) (iv a1)) (.int .u8 a0)) (Sg kr (fun _=>a3))<|A1) fun a hF=>wfn rfl ?_
    refine qnB [(49,.bool (bif (bif (bif (decide (a0<97)) then true else (decide (a0>122))) then (bif (decide (a0<48)) then true else (decide (a0>57))) else false) then (a0 != 95) else false))] hF fun a hF=>?_
    refine A8 hF h (fun hc h=>?_) fun hc h=>?_
    ·refine rnB [(2,.bool false)] hF fun a hF=>?_
     refine wpIn_ret (Ab<|A2<|A2<|Ab<|A2<|A7 [.tmp 2] [_] hF rfl ⟨rfl,trivial⟩ ?_)
     obtain rfl:=Ae h
     exact ⟨rfl,hS.ext⟩
    ·refine wpIn_skip (A9<|A3<|?_)
     refine WI.region ?_
     obtain ⟨a2,a4,h⟩:=A0 h
     refine ro 3 3 [(0,.string p0),(3,iv a2)] hF (oA 3 a4<|A1) fun a hF=>wfn rfl ?_
     rw [hk2] at h
     exact ⟨nk2,Nat.lt_succ_self _,a2,hF.sub kr,St.pick [0] (by decide) hS,h⟩
   ·refine wpIn_exit (A5<|A5<|Ar<|A3 ?_)
    exact ⟨hF.sub kr,St.pick [0] (by decide) hS,h⟩
  rintro a w ⟨hF,hS,h⟩
  rw [M9] at h
  refine rnB [(2,.bool true)] hF fun a hF=>?_
  refine wpIn_ret (A7 [.tmp 2] [_] hF rfl ⟨rfl,trivial⟩ ?_)
  obtain rfl:=Ae h
  exact ⟨rfl,hS.ext⟩
theorem Ug (F:Nat) (p0:(List ref12_Item)) (res:Bool) (h:L7 F p0=some res) (μ:Frz) (w0:World) (hm:FrzAt μ w0) {ad1:Option Addr} {cap2:Nat} {css3:List (List Value)} (hA4:ArrQ μ 21 Rp49 ad1 cap2 css3 p0):Calls Tryz.prog 15 #[sv ad1 p0 cap2] w0 (fun e w=>e=.returned (.bool res)∧Ext w0 w):=by
 obtain ⟨hlow,hS⟩:=hm.init
 have hext:=Frz.ext_refl w0.heap.size μ
 rw [L7] at h
 refine feW Tryz.func15 76 [(0,sv ad1 p0 cap2)] hS fun a w hF hS=>?_
 refine qnB [] hF fun a hF=>?_
 refine Am<|qnB [(18,.bool (bif (bif (decide ((ln p0)>12)) then (decide ((ln p0)≤1000)) else false) then true else (decide ((ln p0)>1002))))] hF fun a hF=>?_
 refine A8 hF h (fun hc h=>?_) fun hc h=>?_
 ·refine rnB [(2,.bool false)] hF fun a hF=>?_
  refine wpIn_ret (A2<|A7 [.tmp 2] [_] hF rfl ⟨rfl,trivial⟩ ?_)
  obtain rfl:=Ae h
  exact ⟨rfl,hS.ext⟩
 ·refine wK<|Dx (fun a w=>Fr 76 [] [] a∧St w0 [fz w0 μ] w∧Ko=some res) ?_ ?_
  ·skip
   refine qnB [(3,iv 0)] hF fun a hF=>?_
   refine wpIn_block<|Ck (fun n_ a w=>∃(a0:Int),Fr 76 [] [(0,sv ad1 p0 cap2),(3,iv a0)] a∧St w0 [fz w0 μ] w∧Gs F p0 n_ a0=some res) F ⟨0,hF.sub kr,St.pick [0] (by decide) hS,h⟩ ?_
   rintro nk2 a w ⟨a0,hF,hS,h⟩
   rcases nk2 with _|nk2
   ·cases (show (none:Option Bool)=some res from h)
   obtain ⟨k2,hk2⟩:∃k,k=Gs F p0 nk2:=⟨_,rfl⟩
   replace h:Km F p0 k2 a0=some res:=by rw [hk2];exact h
   rw [Km] at h
   refine Am<|qnB [(22,.bool (decide (a0<(ln p0))))] hF fun a hF=>?_
   refine A8 hF h (fun hc h=>?_) fun hc h=>?_
   ·refine wK<|Dx (fun a w=>Fr 76 [] [(0,sv ad1 p0 cap2),(3,iv a0)] a∧St w0 [fz w0 μ] w∧Kp a0 k2=some res) ?_ ?_
    ·skip
     refine wpIn_block<|esr ?_
     obtain ⟨aE,aO,h⟩:=A0 h
     obtain ⟨bK,a8,aI⟩:=Cw hA4.2 aO
     obtain ⟨aY,b9,bQ,aZ,bA,rfl,bV,bW⟩:=aI
     refine qo 8 8 [(4,iv (ln aE.Field.Vals))] hF (oI 28 (hA4.at (hS.frz (i:=0) rfl hlow)) a8<|oE 44 19 (Dg 21) (fun _ hd=>(hA4.at ((hS.at_ hd).frz (i:=0) rfl hlow))) a8 rfl<|A1) fun a hF=>wfn rfl ?_
     refine Dx (fun a w=>∃(a6:Int),Fr 76 [] [(0,sv ad1 p0 cap2),(3,iv a0),(4,iv a6)] a∧St w0 [fz w0 μ] w∧J6 p0 a0 k2 a6=some res) ?_ ?_
     ·skip
      refine qnB [(5,iv 0)] hF fun a hF=>?_
      refine wpIn_block<|Ck (fun n_ a w=>∃(a1:Int) (a2:Int),Fr 76 [] [(0,sv ad1 p0 cap2),(3,iv a0),(4,iv a1),(5,iv a2)] a∧St w0 [fz w0 μ] w∧Gt p0 a0 k2 n_ a1 a2=some res) F ⟨(ln aE.Field.Vals),0,hF.sub kr,St.pick [0] (by decide) hS,h⟩ ?_
      rintro nk5 a w ⟨a1,a2,hF,hS,h⟩
      rcases nk5 with _|nk5
      ·cases (show (none:Option Bool)=some res from h)
      obtain ⟨k5,hk5⟩:∃k,k=Gt p0 a0 k2 nk5:=⟨_,rfl⟩
      replace h:Kn p0 a0 k2 k5 a1 a2=some res:=by rw [hk5];exact h
      rw [Kn] at h
      refine Am<|esr ?_
      obtain ⟨aX,aR,h⟩:=A0 h
      obtain ⟨bN,aB,aL⟩:=Cw hA4.2 aR
      obtain ⟨b4,bF,bT,b5,bG,rfl,c1,c2⟩:=aL
      refine qo 9 9 [(40,.bool (decide (a2<(ln aX.Sweep.Rays))))] hF (oI 28 (hA4.at (hS.frz (i:=0) rfl hlow)) aB<|oE 39 13 (Dg 21) (fun _ hd=>(hA4.at ((hS.at_ hd).frz (i:=0) rfl hlow))) aB rfl<|A1) fun a hF=>wfn rfl ?_
      refine A8 hF h (fun hc h=>?_) fun hc h=>?_
      ·refine wK<|Am<|wpIn_block<|WI.region ?_
       obtain ⟨c5,aS,h⟩:=A0 h
       obtain ⟨bO,aC,aM⟩:=Cw hA4.2 aS
       obtain ⟨b6,bH,bU,b7,bI,rfl,a7,c3⟩:=aM
       obtain ⟨a5,aT,h⟩:=A0 h
       obtain ⟨bP,aD,aN⟩:=Cw a7.2 aT
       obtain ⟨b8,bJ,rfl,c4⟩:=aN
       refine ro 13 13 [(0,sv ad1 p0 cap2),(3,iv a0),(4,iv (IntKind.i64.wrap (a1+(ln a5)))),(5,iv a2)] hF (oI 28 (hA4.at (hS.frz (i:=0) rfl hlow)) aC<|oE 39 13 (Dg 21) (fun _ hd=>(hA4.at ((hS.at_ hd).frz (i:=0) rfl hlow))) aC rfl<|oI 39 (a7.at (hS.frz (i:=0) rfl hlow)) aD<|oE 87 0 (Dg 1) (fun _ hd=>(a7.at ((hS.at_ hd).frz (i:=0) rfl hlow))) aD rfl<|oX (.run [] (binOp .add 3 (iv a1) (iv (ln a5))) (iv (IntKind.i64.wrap (a1+(ln a5))))) (obW kr)<|A1) fun a hF=>WI.fin rfl (A9<|A3<|?_)
       refine WI.region ?_
       obtain ⟨aH,aV,h⟩:=A0 h
       refine ro 3 3 [(0,sv ad1 p0 cap2),(3,iv a0),(4,iv (IntKind.i64.wrap (a1+(ln a5)))),(5,iv aH)] hF (oA 3 aV<|A1) fun a hF=>wfn rfl ?_
       rw [hk5] at h
       exact ⟨nk5,Nat.lt_succ_self _,IntKind.i64.wrap (a1+(ln a5)),aH,hF.sub kr,St.pick [0] (by decide) hS,h⟩
      ·refine wpIn_exit (A5<|A5<|Ar<|A3 ?_)
       exact ⟨a1,hF.sub kr,St.pick [0] (by decide) hS,h⟩
     rintro a w ⟨a6,hF,hS,h⟩
     rw [J6] at h
     refine esr<|rn 3 3 [(0,sv ad1 p0 cap2),(3,iv a0),(57,.bool (decide (a6>200)))] hF fun a hF=>?_
     rcases Bool.eq_false_or_eq_true ((decide (a6>200))) with a3|a3
     ·replace h:=Gx h a3
      rw [a3] at hF
      refine qk 4 [(57,.bool true),(58,undef)] hF fun a hF=>?_
      refine qk 5 [(59,undef)] hF fun a hF=>?_
      refine qk 6 [(60,undef)] hF fun a hF=>?_
      refine qk 7 [(61,undef)] hF fun a hF=>?_
      refine qk 8 [(62,undef)] hF fun a hF=>?_
      refine qk 9 [(63,undef)] hF fun a hF=>?_
      refine qk 10 [(64,undef)] hF fun a hF=>?_
      refine qk 11 [(65,undef)] hF fun a hF=>?_
      refine qn 2 13 [(67,.bool true)] hF fun a hF=>?_
      refine qk 14 [(68,undef)] hF fun a hF=>?_
      refine qk 15 [(69,undef)] hF fun a hF=>?_
      refine qk 16 [(70,undef)] hF fun a hF=>?_
      refine qk 17 [(71,undef)] hF fun a hF=>?_
      refine qk 18 [(72,undef)] hF fun a hF=>?_
      refine qk 19 [(73,undef)] hF fun a hF=>?_
      refine qk 20 [(74,undef)] hF fun a hF=>?_
      refine qn 1 21 [(75,.bool true)] hF fun a hF=>wfn rfl ?_
      refine wpIn_cond_true (hF.get rfl) ?_
      refine rnB [(2,.bool false)] hF fun a hF=>?_
      refine wpIn_ret (Ab<|A2<|A2<|Ab<|A2<|A7 [.tmp 2] [_] hF rfl ⟨rfl,trivial⟩ ?_)
      obtain rfl:=Ae h
      exact ⟨rfl,hS.ext⟩
     ·replace h:=Gw h a3
      rw [a3] at hF
      obtain ⟨aF,aP,h⟩:=A0 h
      obtain ⟨bL,a9,aJ⟩:=Cw hA4.2 aP
      obtain ⟨b0,bB,bR,b1,bC,rfl,bX,bY⟩:=aJ
      refine qo 10 13 [(67,.bool (decide ((ln aF.Sweep.Rays)>100)))] hF (oGs [⟨57,false,false⟩] (oI 28 (hA4.at (hS.frz (i:=0) rfl hlow)) a9<|oE 39 13 (Dg 21) (fun _ hd=>(hA4.at ((hS.at_ hd).frz (i:=0) rfl hlow))) a9 rfl<|A1)<|A1) fun a hF=>?_
      rcases Bool.eq_false_or_eq_true ((decide ((ln aF.Sweep.Rays)>100))) with a4|a4
      ·replace h:=Gx h a4
       rw [a4] at hF
       refine qk 14 [(67,.bool true),(68,undef)] hF fun a hF=>?_
       refine qk 15 [(69,undef)] hF fun a hF=>?_
       refine qk 16 [(70,undef)] hF fun a hF=>?_
       refine qk 17 [(71,undef)] hF fun a hF=>?_
       refine qk 18 [(72,undef)] hF fun a hF=>?_
       refine qk 19 [(73,undef)] hF fun a hF=>?_
       refine qk 20 [(74,undef)] hF fun a hF=>?_
       refine qn 1 21 [(75,.bool true)] hF fun a hF=>wfn rfl ?_
       refine wpIn_cond_true (hF.get rfl) ?_
       refine rnB [(2,.bool false)] hF fun a hF=>?_
       refine wpIn_ret (Ab<|A2<|A2<|Ab<|A2<|A7 [.tmp 2] [_] hF rfl ⟨rfl,trivial⟩ ?_)
       obtain rfl:=Ae h
       exact ⟨rfl,hS.ext⟩
      ·replace h:=Gw h a4
       rw [a4] at hF
       obtain ⟨aW,aQ,h⟩:=A0 h
       obtain ⟨bM,aA,aK⟩:=Cw hA4.2 aQ
       obtain ⟨b2,bD,bS,b3,bE,rfl,bZ,c0⟩:=aK
       refine qo 8 21 [(75,.bool (decide (((aW.Text.size:Nat):Int)>400)))] hF (oGs [⟨67,false,false⟩] (oI 28 (hA4.at (hS.frz (i:=0) rfl hlow)) aA<|oE 9 20 (Dg 21) (fun _ hd=>(hA4.at ((hS.at_ hd).frz (i:=0) rfl hlow))) aA rfl<|A1)<|A1) fun a hF=>wfn rfl ?_
       refine A8 hF h (fun hc h=>?_) fun hc h=>?_
       ·refine rnB [(2,.bool false)] hF fun a hF=>?_
        refine wpIn_ret (Ab<|A2<|A2<|Ab<|A2<|A7 [.tmp 2] [_] hF rfl ⟨rfl,trivial⟩ ?_)
        obtain rfl:=Ae h
        exact ⟨rfl,hS.ext⟩
       ·refine wpIn_skip (A9<|A3<|?_)
        exact ⟨hF.sub kr,St.pick [0] (by decide) hS,h⟩
    rintro a w ⟨hF,hS,h⟩
    rw [Kp] at h
    refine WI.region ?_
    obtain ⟨aG,aU,h⟩:=A0 h
    refine ro 3 3 [(0,sv ad1 p0 cap2),(3,iv aG)] hF (oA 3 aU<|A1) fun a hF=>wfn rfl ?_
    rw [hk2] at h
    exact ⟨nk2,Nat.lt_succ_self _,aG,hF.sub kr,St.pick [0] (by decide) hS,h⟩
   ·refine wpIn_exit (A5<|A5<|Ar<|A3 ?_)
    exact ⟨hF.sub kr,St.pick [0] (by decide) hS,h⟩
  rintro a w ⟨hF,hS,h⟩
  rw [Ko] at h
  refine rnB [(2,.bool true)] hF fun a hF=>?_
  refine wpIn_ret (A7 [.tmp 2] [_] hF rfl ⟨rfl,trivial⟩ ?_)
  obtain rfl:=Ae h
  exact ⟨rfl,hS.ext⟩
theorem Ny (F:Nat) (p0:(List Int)) (res:(List Int)) (h:Et F p0=some res) (μ:Frz) (w0:World) (hm:FrzAt μ w0) {ad1x:Addr} {cap2:Nat} (hA3:ArrM μ 1 (fK .u8) (some ad1x) cap2 p0):Ba Tryz.prog 51 #[.slice (some ad1x) p0.length cap2] w0 (fun e w=>∃zad0 zcap0,e=(sv zad0 res zcap0)∧St w0 [arr 5 1 (fK .u8) zad0 res.length zcap0 res] w):=by
 obtain ⟨hlow,hS⟩:=hm.init
 have hext:=Frz.ext_refl w0.heap.size μ
 rw [Et] at h
 refine feW Tryz.func51 8 [(0,.slice (some ad1x) p0.length cap2)] hS fun a w hF hS=>?_
 refine qnB [] hF fun a hF=>?_
 refine Am<|qnB [(4,.bool false)] hF fun a hF=>?_
 refine wpIn_cond_false (hF.get rfl) ?_
 refine wK<|esr<|SK.wi (A1i (e:=5) (sz:=1) (f:=(fK .u8)) (t:=22) (len:=0) (fun b4=>[(0,.slice (some ad1x) p0.length cap2),(5,sb b4 0)]) #[] #[] ([]:List Int) hF hS kr ⟨kr⟩ kr (B8 .u8) rfl rfl kr (fun _=>⟨kr⟩) fun b4 w a hF hS=>?_)
 refine rn 1 2 [(5,sb b4 0),(6,.slice (some ad1x) p0.length cap2)] hF fun a hF=>?_
 obtain ⟨l5,hl5,h⟩:=A0 h
 refine SK.wi (qP 22 22 0 (fun ad6 cap7=>[(7,sv ad6 l5 cap7)]) hF hS (hA3 _ (hS.frz (i:=1) rfl hlow)) hl5 rfl fun ad6 cap7 w a hF hS=>?_)
 refine rn 1 4 [(2,sv ad6 l5 cap7)] hF fun a hF=>wfn rfl ?_
 refine wpIn_ret (A7 [.tmp 2] [_] hF rfl ⟨rfl,trivial⟩ ?_)
 obtain rfl:=Ae h
 exact ⟨_,rfl,_,_,rfl,St.pick [0] (by decide) hS⟩
theorem Nx (res:(List Int)) (h:([]:List Int)=res) (μ:Frz) (w0:World) (hm:FrzAt μ w0) {cap2:Nat}:Ba Tryz.prog 51 #[.slice none 0 cap2] w0 (fun e w=>∃zad0 zcap0,e=(sv zad0 res zcap0)∧St w0 [arr 5 1 (fK .u8) zad0 res.length zcap0 res] w):=by
 obtain ⟨hlow,hS⟩:=hm.init
 have hext:=Frz.ext_refl w0.heap.size μ
 refine feW Tryz.func51 8 [(0,.slice none 0 cap2)] hS fun a w hF hS=>?_
 refine qnB [] hF fun a hF=>?_
 refine Am<|qnB [(4,.bool true)] hF fun a hF=>?_
 refine wpIn_cond_true (hF.get rfl) ?_
 refine rnB [(2,.slice none 0 0)] hF fun a hF=>?_
 refine wpIn_ret (A2<|A7 [.tmp 2] [_] hF rfl ⟨rfl,trivial⟩ ?_)
 subst h
 replace hS:=hS.nilarr 5 1 (fK .u8)
 exact ⟨_,rfl,_,_,rfl,St.pick [0] (by decide) hS⟩
theorem P8 (F:Nat) (p0:List Int) (res:List Int) (h:Et F p0=some res) (μ:Frz) (w0:World) (hm:FrzAt μ w0) {ad1:Option Addr} {cap2:Nat} (hA3:ArrM μ 1 (fK .u8) ad1 cap2 p0):Ba Tryz.prog 51 #[sv ad1 p0 cap2] w0 (fun e w=>∃zad0 zcap0,e=(sv zad0 res zcap0)∧St w0 [arr 5 1 (fK .u8) zad0 res.length zcap0 res] w):=by
 cases ad1 with
 | some a=>exact Ny F p0 res h μ w0 hm hA3
 | none =>
  obtain rfl:=hA3.none_nil hm
  have hr:[]=res:=Option.some.inj (show some ([]:List Int)=some res from h)
  exact Nx res hr μ w0 hm
end Go.Proofs.YtifbomimeodibaaGreat
