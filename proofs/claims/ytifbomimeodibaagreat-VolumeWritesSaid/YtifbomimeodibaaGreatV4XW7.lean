import Derived.Test.YtifbomimeodibaaGreatV4XD
import Derived.Test.YtifbomimeodibaaGreatProg
import Derived.Test.YtifbomimeodibaaGreatV4XW1
import Derived.Test.YtifbomimeodibaaGreatV4XW2
import Derived.Test.YtifbomimeodibaaGreatV4XW4
import Derived.Test.YtifbomimeodibaaGreatV4XW5
namespace Go.Proofs.YtifbomimeodibaaGreat
open Go Go.RowKit Go.Eng
set_option maxRecDepth 10000
set_option maxHeartbeats 4000000
set_option linter.unusedVariables false
set_option linter.unusedSimpArgs false
theorem Qj (F:Nat) (p0:api_Sweep) (res:Int) (h:Bi F p0=some res) (μ:Frz) (w0:World) (hm:FrzAt μ w0) {ad1:Option Addr} {cap2:Nat} {css3:List (List Value)} (hA4:ArrQ μ 1 Rp87 ad1 cap2 css3 p0.Rays):Calls Tryz.prog 167 #[.agg #[.string p0.Site.Name,iv p0.Site.X,iv p0.Site.Y,iv p0.Site.Z,iv p0.Site.Rose,iv p0.Site.Gates,iv p0.Site.Step,iv p0.Site.Width,iv p0.Tilt,iv p0.Time,sv ad1 p0.Rays cap2]] w0 (fun e w=>e=.returned (iv res)∧Ext w0 w):=by
 obtain ⟨hlow,hS⟩:=hm.init
 have hext:=Frz.ext_refl w0.heap.size μ
 rw [Bi] at h
 refine Ag Tryz.func167 rfl 69 [(0,.agg #[.string p0.Site.Name,iv p0.Site.X,iv p0.Site.Y,iv p0.Site.Z,iv p0.Site.Rose,iv p0.Site.Gates,iv p0.Site.Step,iv p0.Site.Width,iv p0.Tilt,iv p0.Time,sv ad1 p0.Rays cap2])] rfl rfl kr fun a w hw hF=>?_
 replace hS:=hS.cast hw
 clear hw
 refine esr ?_
 refine SK.wi (J6 (t:=41) (fun b5=>[(1,pb b5)]) (.agg #[.string p0.Site.Name,iv p0.Site.X,iv p0.Site.Y,iv p0.Site.Z,iv p0.Site.Rose,iv p0.Site.Gates,iv p0.Site.Step,iv p0.Site.Width,iv p0.Tilt,iv p0.Time,sv ad1 p0.Rays cap2]) #[.string p0.Site.Name,iv p0.Site.X,iv p0.Site.Y,iv p0.Site.Z,iv p0.Site.Rose,iv p0.Site.Gates,iv p0.Site.Step,iv p0.Site.Width,iv p0.Tilt,iv p0.Time,sv ad1 p0.Rays cap2] hF hS kr ⟨kr⟩ kr (fun _=>⟨kr⟩) fun b5 w a hF hS=>?_)
 refine rn 1 2 [(1,pb b5)] hF fun a hF=>?_
 refine wfn rfl ?_
 refine Ar ?_
 refine esr ?_
 obtain ⟨y6,hy6,h⟩:=A1 h
 refine qx 4 4 [(3,iv y6)] hF (oN 38 0 0 8 hS.e rfl<|oC (fun w2 hd=>Mx F p0.Site _ hy6 _ w2 (A5 w2))<|A9) fun a w hF hx=>?_
 replace hS:=hS.later hx
 refine wfn rfl ?_
 refine qnB [(15,.bool (y6 != 0))] hF fun a hF=>?_
 refine Aj hF rfl (fun hc=>?_) (fun hc=>?_)
 ·replace h:=Af h hc
  refine rnB [(2,iv y6)] hF fun a hF=>?_
  refine wpIn_ret (A6<|Ad [.tmp 2] [iv y6] hF rfl ⟨rfl,trivial⟩ ?_)
  obtain rfl:=Ao h
  exact ⟨rfl,hS.ext⟩
 ·replace h:=Ae h hc
  refine wpIn_skip (A0 ?_)
  refine Ar ?_
  refine esr ?_
  refine qx 10 10 [(26,.bool (bif (!(Aq p0.Tilt 0 256)) then true else (!(Aq p0.Time 0 4294967296))))] hF (oL 3 0 8 hS.e rfl rfl<|oC (fun w2 hd=>Gt p0.Tilt 0 256 _ rfl _ w2 (A5 w2))<|oX (.run [⟨21,false,(!(Aq p0.Tilt 0 256))⟩] (Instr.loadAt 3 (.pointer (some ⟨b5,9,none⟩))) (iv p0.Time)) (ob1 kr (fun _ hd=>(hS.later hd).cell (i:=0) (j:=9) rfl rfl))<|oX (.call [⟨21,false,(!(Aq p0.Tilt 0 256))⟩] 171 #[iv p0.Time,iv 0,iv 4294967296] (.bool (Aq p0.Time 0 4294967296))) (show Ob.ok _ Ext _ _ from fun hk w2 hd=>Gt p0.Time 0 4294967296 _ rfl _ w2 (A5 w2))<|A9) fun a w hF hx=>?_
  replace hS:=hS.later hx
  refine wfn rfl ?_
  refine Aj hF rfl (fun hc=>?_) (fun hc=>?_)
  ·replace h:=Af h hc
   refine rnB [(2,iv 3)] hF fun a hF=>?_
   refine wpIn_ret (A6<|Ad [.tmp 2] [iv 3] hF rfl ⟨rfl,trivial⟩ ?_)
   obtain rfl:=Ao h
   exact ⟨rfl,hS.ext⟩
  ·replace h:=Ae h hc
   refine wpIn_skip (A0 ?_)
   refine Ar ?_
   refine esr ?_
   obtain ⟨x7,hx7,h⟩:=A1 h
   refine qo 8 8 [(34,.bool ((ln p0.Rays) != x7))] hF (oL 39 0 10 hS.i rfl rfl<|oL 3 0 4 hS.i rfl rfl<|oM 3 hx7<|A9) fun a hF=>?_
   refine wfn rfl ?_
   refine Aj hF rfl (fun hc=>?_) (fun hc=>?_)
   ·replace h:=Af h hc
    refine rnB [(2,iv 11)] hF fun a hF=>?_
    refine wpIn_ret (A6<|Ad [.tmp 2] [iv 11] hF rfl ⟨rfl,trivial⟩ ?_)
    obtain rfl:=Ao h
    exact ⟨rfl,hS.ext⟩
   ·replace h:=Ae h hc
    refine wpIn_skip (A0 ?_)
    refine D9 (fun a w=>Fr 69 [] [(1,pb b5)] a∧St w0 [blk b5 41 #[.string p0.Site.Name,iv p0.Site.X,iv p0.Site.Y,iv p0.Site.Z,iv p0.Site.Rose,iv p0.Site.Gates,iv p0.Site.Step,iv p0.Site.Width,iv p0.Tilt,iv p0.Time,sv ad1 p0.Rays cap2],fz w0 μ] w∧Eu F p0=some res) ?_ ?_
    ·skip
     refine qoB [(36,sv ad1 p0.Rays cap2),(37,iv (ln p0.Rays)),(38,iv 0)] hF (oL 39 0 10 hS.i rfl rfl<|A9) fun a hF=>?_
     refine wpIn_block ?_
     refine Ci (fun n_ a w=>∃(a4:Int),Fr 69 [] [(1,pb b5),(36,sv ad1 p0.Rays cap2),(37,iv (ln p0.Rays)),(38,iv a4)] a∧St w0 [blk b5 41 #[.string p0.Site.Name,iv p0.Site.X,iv p0.Site.Y,iv p0.Site.Z,iv p0.Site.Rose,iv p0.Site.Gates,iv p0.Site.Step,iv p0.Site.Width,iv p0.Tilt,iv p0.Time,sv ad1 p0.Rays cap2],fz w0 μ] w∧Cp F p0 n_ a4=some res) F ⟨0,hF.sub kr,St.pick [0,1] (by decide) hS,h⟩ ?_
     rintro nk6 a w ⟨a4,hF,hS,h⟩
     rcases nk6 with _|nk6
     ·cases (show (none:Option Int)=some res from h)
     obtain ⟨k6,hk6⟩:∃k,k=Cp F p0 nk6:=⟨_,rfl⟩
     replace h:Et F p0 k6 a4=some res:=by rw [hk6];exact h
     rw [Et] at h
     refine qnB [(39,.bool (decide (a4<(ln p0.Rays))))] hF fun a hF=>?_
     refine Ar ?_
     refine Aj hF rfl (fun hc=>?_) (fun hc=>?_)
     ·replace h:=Af h hc
      refine wpIn_skip (A0 ?_)
      refine Ar ?_
      refine wpIn_block ?_
      refine esr ?_
      obtain ⟨aD,aM,h⟩:=A1 h
      obtain ⟨aS,aB,aK⟩:=Bd hA4.2 aM
      obtain ⟨aH,aI,rfl,aT⟩:=aK
      refine qo 3 3 [(5,sv aH aD aI)] hF (oI 39 (hA4.at (hS.frz (i:=1) rfl hlow)) aB<|oE 87 0 (Bz 1) (fun _ hd=>(hA4.at ((hS.at_ hd).frz (i:=1) rfl hlow))) aB rfl<|A9) fun a hF=>?_
      refine wfn rfl ?_
      refine qoB [(47,.bool ((ln aD) != p0.Site.Gates))] hF (oL 3 0 5 hS.i rfl rfl<|A9) fun a hF=>?_
      refine Aj hF rfl (fun hc=>?_) (fun hc=>?_)
      ·replace h:=Af h hc
       refine rnB [(2,iv 11)] hF fun a hF=>?_
       refine wpIn_ret (Ai<|A6<|A6<|Ai<|A6<|Ad [.tmp 2] [iv 11] hF rfl ⟨rfl,trivial⟩ ?_)
       obtain rfl:=Ao h
       exact ⟨rfl,hS.ext⟩
      ·replace h:=Ae h hc
       refine wpIn_skip (Ab<|A0<|?_)
       refine WI.region ?_
       obtain ⟨aG,aP,h⟩:=A1 h
       refine ro 2 2 [(1,pb b5),(36,sv ad1 p0.Rays cap2),(37,iv (ln p0.Rays)),(38,iv aG)] hF (oA 3 aP<|A9) fun a hF=>?_
       refine wfn rfl ?_
       rw [hk6] at h
       exact ⟨nk6,Nat.lt_succ_self _,aG,hF.sub kr,St.pick [0,1] (by decide) hS,h⟩
     ·replace h:=Ae h hc
      refine wpIn_exit (Aa<|Aa<|Av<|A0 ?_)
      exact ⟨hF.sub kr,St.pick [0,1] (by decide) hS,h⟩
    rintro a w ⟨hF,hS,h⟩
    rw [Eu] at h
    refine D9 (fun a w=>Fr 69 [] [] a∧St w0 [blk b5 41 #[.string p0.Site.Name,iv p0.Site.X,iv p0.Site.Y,iv p0.Site.Z,iv p0.Site.Rose,iv p0.Site.Gates,iv p0.Site.Step,iv p0.Site.Width,iv p0.Tilt,iv p0.Time,sv ad1 p0.Rays cap2],fz w0 μ] w∧G2=some res) ?_ ?_
    ·skip
     refine roB [(50,sv ad1 p0.Rays cap2),(51,iv (ln p0.Rays)),(52,iv 0)] hF (oL 39 0 10 hS.i rfl rfl<|A9) fun a hF=>?_
     refine wpIn_block ?_
     refine Ci (fun n_ a w=>∃(a1:Int),Fr 69 [] [(50,sv ad1 p0.Rays cap2),(51,iv (ln p0.Rays)),(52,iv a1)] a∧St w0 [blk b5 41 #[.string p0.Site.Name,iv p0.Site.X,iv p0.Site.Y,iv p0.Site.Z,iv p0.Site.Rose,iv p0.Site.Gates,iv p0.Site.Step,iv p0.Site.Width,iv p0.Tilt,iv p0.Time,sv ad1 p0.Rays cap2],fz w0 μ] w∧C2 F p0 n_ a1=some res) F ⟨0,hF.sub kr,St.pick [0,1] (by decide) hS,h⟩ ?_
     rintro nk3 a w ⟨a1,hF,hS,h⟩
     rcases nk3 with _|nk3
     ·cases (show (none:Option Int)=some res from h)
     obtain ⟨k3,hk3⟩:∃k,k=C2 F p0 nk3:=⟨_,rfl⟩
     replace h:Er F p0 k3 a1=some res:=by rw [hk3];exact h
     rw [Er] at h
     refine qnB [(53,.bool (decide (a1<(ln p0.Rays))))] hF fun a hF=>?_
     refine Ar ?_
     refine Aj hF rfl (fun hc=>?_) (fun hc=>?_)
     ·replace h:=Af h hc
      refine wpIn_skip (A0 ?_)
      refine D9 (fun a w=>Fr 69 [] [(50,sv ad1 p0.Rays cap2),(51,iv (ln p0.Rays)),(52,iv a1)] a∧St w0 [blk b5 41 #[.string p0.Site.Name,iv p0.Site.X,iv p0.Site.Y,iv p0.Site.Z,iv p0.Site.Rose,iv p0.Site.Gates,iv p0.Site.Step,iv p0.Site.Width,iv p0.Tilt,iv p0.Time,sv ad1 p0.Rays cap2],fz w0 μ] w∧Dw a1 k3=some res) ?_ ?_
      ·skip
       refine wpIn_block ?_
       refine esr ?_
       obtain ⟨a2,aL,h⟩:=A1 h
       obtain ⟨aR,aA,aJ⟩:=Bd hA4.2 aL
       obtain ⟨a5,a6,rfl,a9⟩:=aJ
       refine qo 3 3 [(7,sv a5 a2 a6)] hF (oI 39 (hA4.at (hS.frz (i:=1) rfl hlow)) aA<|oE 87 0 (Bz 1) (fun _ hd=>(hA4.at ((hS.at_ hd).frz (i:=1) rfl hlow))) aA rfl<|A9) fun a hF=>?_
       refine wfn rfl ?_
       refine qnB [(56,sv a5 a2 a6),(57,iv (ln a2)),(58,iv 0)] hF fun a hF=>?_
       refine wpIn_block ?_
       refine Ci (fun n_ a w=>∃(a3:Int),Fr 69 [] [(50,sv ad1 p0.Rays cap2),(51,iv (ln p0.Rays)),(52,iv a1),(56,sv a5 a2 a6),(57,iv (ln a2)),(58,iv a3)] a∧St w0 [blk b5 41 #[.string p0.Site.Name,iv p0.Site.X,iv p0.Site.Y,iv p0.Site.Z,iv p0.Site.Rose,iv p0.Site.Gates,iv p0.Site.Step,iv p0.Site.Width,iv p0.Tilt,iv p0.Time,sv ad1 p0.Rays cap2],fz w0 μ] w∧C3 F a1 k3 a2 n_ a3=some res) F ⟨0,hF.sub kr,St.pick [0,1] (by decide) hS,h⟩ ?_
       rintro nk5 a w ⟨a3,hF,hS,h⟩
       rcases nk5 with _|nk5
       ·cases (show (none:Option Int)=some res from h)
       obtain ⟨k5,hk5⟩:∃k,k=C3 F a1 k3 a2 nk5:=⟨_,rfl⟩
       replace h:Es F a1 k3 a2 k5 a3=some res:=by rw [hk5];exact h
       rw [Es] at h
       refine qnB [(59,.bool (decide (a3<(ln a2))))] hF fun a hF=>?_
       refine Ar ?_
       refine Aj hF rfl (fun hc=>?_) (fun hc=>?_)
       ·replace h:=Af h hc
        refine wpIn_skip (A0 ?_)
        refine Ar ?_
        refine wpIn_block ?_
        refine esr ?_
        obtain ⟨a0,aC,h⟩:=A1 h
        refine qo 2 2 [(61,a0.ag)] hF (oI 87 (a9 _ (hS.frz (i:=1) rfl hlow)) aC<|oG 149 0 14 api_Echo.cells_len (fun _ hd=>(a9 _ ((hS.at_ hd).frz (i:=1) rfl hlow))) aC<|A9) fun a hF=>?_
        refine SK.wi (qA 149 #[iv 0,iv 0,iv 0,iv 0,iv 0,iv 0,iv 0,iv 0,iv 0,iv 0,iv 0,iv 0,iv 0,iv 0] (fun a8=>[(9,pb a8)]) hF hS fun a8 w a hF hS=>?_)
        refine SK.wi (qS 149 0 0 (a0.ag) a0.ar hF hS rfl fun w a hF hS=>?_)
        refine wfn rfl ?_
        refine esr ?_
        obtain ⟨a7,aQ,h⟩:=A1 h
        refine qx 3 3 [(10,iv a7)] hF (oN 149 0 0 14 hS.e rfl<|oC (fun w2 hd=>R5 F (api_Echo.mk a0.Kind a0.Power ((api_Span.mk a0.Steps.1.Lo a0.Steps.1.Hi),(api_Span.mk a0.Steps.2.Lo a0.Steps.2.Hi)) a0.Spread a0.Ratio a0.Match a0.Turn) _ aQ _ w2 (A5 w2))<|A9) fun a w hF hx=>?_
        replace hS:=hS.later hx
        refine wfn rfl ?_
        refine qnB [(65,.bool (a7 != 0))] hF fun a hF=>?_
        refine Aj hF rfl (fun hc=>?_) (fun hc=>?_)
        ·replace h:=Af h hc
         refine rnB [(2,iv a7)] hF fun a hF=>?_
         refine wpIn_ret (Ai<|A6<|A6<|Ai<|Ai<|A6<|A6<|Ai<|A6<|Ad [.tmp 2] [iv a7] hF rfl ⟨rfl,trivial⟩ ?_)
         obtain rfl:=Ao h
         exact ⟨rfl,hS.ext⟩
        ·replace h:=Ae h hc
         refine wpIn_skip (Ab<|A0<|?_)
         refine WI.region ?_
         obtain ⟨aF,aO,h⟩:=A1 h
         refine ro 2 2 [(50,sv ad1 p0.Rays cap2),(51,iv (ln p0.Rays)),(52,iv a1),(56,sv a5 a2 a6),(57,iv (ln a2)),(58,iv aF)] hF (oA 3 aO<|A9) fun a hF=>?_
         refine wfn rfl ?_
         rw [hk5] at h
         exact ⟨nk5,Nat.lt_succ_self _,aF,hF.sub kr,St.pick [1,2] (by decide) hS,h⟩
       ·replace h:=Ae h hc
        refine wpIn_exit (Aa<|Aa<|Av<|Ab<|A0<|?_)
        exact ⟨hF.sub kr,St.pick [0,1] (by decide) hS,h⟩
      rintro a w ⟨hF,hS,h⟩
      rw [Dw] at h
      refine WI.region ?_
      obtain ⟨aE,aN,h⟩:=A1 h
      refine ro 2 2 [(50,sv ad1 p0.Rays cap2),(51,iv (ln p0.Rays)),(52,iv aE)] hF (oA 3 aN<|A9) fun a hF=>?_
      refine wfn rfl ?_
      rw [hk3] at h
      exact ⟨nk3,Nat.lt_succ_self _,aE,hF.sub kr,St.pick [0,1] (by decide) hS,h⟩
     ·replace h:=Ae h hc
      refine wpIn_exit (Aa<|Aa<|Av<|A0 ?_)
      exact ⟨hF.sub kr,St.pick [0,1] (by decide) hS,h⟩
    rintro a w ⟨hF,hS,h⟩
    rw [G2] at h
    refine rnB [(2,iv 0)] hF fun a hF=>?_
    refine wpIn_ret (Ad [.tmp 2] [iv 0] hF rfl ⟨rfl,trivial⟩ ?_)
    obtain rfl:=Ao h
    exact ⟨rfl,hS.ext⟩
theorem Uf (F:Nat) (p0:api_Echo) (res:(List Int)) (h:Ky F p0=some res) (μ:Frz) (w0:World) (hm:FrzAt μ w0):Bj Tryz.prog 126 #[p0.ag] w0 (fun e w=>∃zad0 zcap0,e=(sv zad0 res zcap0)∧St w0 [arr 5 1 (fK .u8) zad0 res.length zcap0 res] w):=by
 obtain ⟨hlow,hS⟩:=hm.init
 have hext:=Frz.ext_refl w0.heap.size μ
 rw [Ky] at h
 refine Ag Tryz.func126 rfl 51 [(0,p0.ag)] rfl rfl kr fun a w hw hF=>?_
 replace hS:=hS.cast hw
 clear hw
 refine esr ?_
 refine SK.wi (J6 (t:=149) (fun b1=>[(1,pb b1)]) (p0.ag) p0.ar hF hS kr ⟨kr⟩ kr (fun _=>⟨kr⟩) fun b1 w a hF hS=>?_)
 refine rn 1 2 [(1,pb b1)] hF fun a hF=>?_
 refine wfn rfl ?_
 refine esr ?_
 refine qo 2 2 [(5,iv p0.Kind)] hF (oL 3 0 0 hS.i rfl rfl<|A9) fun a hF=>?_
 obtain ⟨y3,hy3,h⟩:=A1 h
 refine SK.wi (qR (fun v2=>[(6,v2)]) hF (Au F _ _ hy3 (Ay w) w (A5 w)) ?_)
 rintro v2 w a ⟨ad4,cap5,rfl,hQ⟩ hF
 replace hS:=hS.madeL hQ
 refine qn 1 4 [(3,sv ad4 y3 cap5)] hF fun a hF=>?_
 refine wfn rfl ?_
 refine Ar ?_
 refine qoB [(9,.bool (p0.Kind==1))] hF (oL 3 1 0 hS.i rfl rfl<|A9) fun a hF=>?_
 refine Aj hF rfl (fun hc=>?_) (fun hc=>?_)
 ·replace h:=Af h hc
  refine esr ?_
  refine ro 4 4 [(10,sv ad4 y3 cap5),(13,iv p0.Power.Hi)] hF (oL 3 1 2 hS.i rfl rfl<|A9) fun a hF=>?_
  obtain ⟨y7,hy7,h⟩:=A1 h
  refine SK.wi (qR (fun v6=>[(14,v6)]) hF (Au F _ _ hy7 (Ay w) w (A5 w)) ?_)
  rintro v6 w a ⟨ad8,cap9,rfl,hQ⟩ hF
  replace hS:=hS.madeL hQ
  obtain ⟨bA,bQ,h⟩:=A1 h
  refine SK.wi (Lq (t:=22) (ty:=22) (bytes:=1) (l:=y3) (l':=y7) (fun b3 b4=>[(15,sv b3 bA b4)]) 1 hF hS rfl kr ⟨kr⟩ kr (hS.arr (i:=0) rfl) (fun _ _=>rfl) bQ (fun _ _=>⟨kr⟩) fun b3 b4 w a hF hS=>?_)
  refine rn 1 7 [(2,sv b3 bA b4)] hF fun a hF=>?_
  refine wfn rfl ?_
  refine wpIn_ret (A6<|Ad [.tmp 2] [sv b3 bA b4] hF rfl ⟨rfl,trivial⟩ ?_)
  obtain rfl:=Ao h
  exact ⟨_,rfl,_,_,rfl,St.pick [1] (by decide) hS⟩
 ·replace h:=Ae h hc
  refine wpIn_skip (A0 ?_)
  refine Ar ?_
  obtain ⟨a8,bX,h⟩:=A1 h
  obtain ⟨a9,bZ,h⟩:=A1 h
  obtain ⟨aA,c0,h⟩:=A1 h
  obtain ⟨aD,c1,h⟩:=A1 h
  obtain ⟨bB,c2,h⟩:=A1 h
  refine Bt 15 [3,6,9,12,13,14] _ (D:=fun w=>St w0 [arr 5 1 (fK .u8) ad4 y3.length cap5 y3,blk b1 149 p0.ar] w∧FrzAt μ w) kr kr hF.size (fun w hx=>?_) (fun _ _ h=>h)
  replace hS:=hS.later hx
  refine ⟨⟨St.pick [0,1] (by decide) hS,hS.frz (i:=2) rfl hlow⟩,?_⟩
  have a5:=Frz.le_refl μ
  refine WT.s [0,1,2,4,5,7,8,10,11] [3] kr kr ?_
  refine qC 9 [(16,sv ad4 y3 cap5),(18,.agg #[iv p0.Power.Lo,iv p0.Power.Hi]),(21,.agg #[iv p0.Ratio.Lo,iv p0.Ratio.Hi]),(24,.agg #[iv p0.Match.Lo,iv p0.Match.Hi]),(27,iv p0.Spread)] hF (oN 146 1 1 2 (fun _ hd=>hd.1) rfl<|oN 146 1 8 2 (fun _ hd=>hd.1) rfl<|oN 146 1 10 2 (fun _ hd=>hd.1) rfl<|oL 3 1 7 (fun _ hd=>hd.1) rfl rfl<|A9) fun a hF=>?_
  refine WRun.fin ?_
  refine all_cons ?_ (At)
  refine qR (fun bJ=>[(19,bJ)]) hF (G0 F _ _ bX (Ay w) w (A5 w)) ?_
  rintro bJ w a ⟨aE,aH,rfl,hQ⟩ hF
  replace hS:=hS.madeL hQ
  refine ⟨⟨St.pick [1,2] (by decide) hS,(hS.frz (i:=3) rfl hlow)⟩,?_⟩
  refine WT.s [] [6] kr kr ?_
  refine WRun.fin ?_
  refine all_cons ?_ (At)
  refine qR (fun bK=>[(19,sv aE a8 aH),(22,bK)]) hF (G0 F _ _ bZ (Ay w) w (A5 w)) ?_
  rintro bK w a ⟨aF,aI,rfl,hQ⟩ hF
  replace hS:=hS.madeL hQ
  refine ⟨⟨St.pick [2,3] (by decide) hS,(hS.frz (i:=4) rfl hlow)⟩,?_⟩
  refine WT.s [] [9] kr kr ?_
  refine WRun.fin ?_
  refine all_cons ?_ (At)
  refine qR (fun bL=>[(22,sv aF a9 aI),(25,bL)]) hF (G0 F _ _ c0 (Ay w) w (A5 w)) ?_
  rintro bL w a ⟨aG,aJ,rfl,hQ⟩ hF
  replace hS:=hS.madeL hQ
  refine ⟨⟨St.pick [3,4] (by decide) hS,(hS.frz (i:=5) rfl hlow)⟩,?_⟩
  refine WT.s [] [12] kr kr ?_
  refine WRun.fin ?_
  refine all_cons ?_ (At)
  refine qR (fun bM=>[(25,sv aG aA aJ),(28,bM)]) hF (Au F _ _ c1 (Ay w) w (A5 w)) ?_
  rintro bM w a ⟨aR,aU,rfl,hQ⟩ hF
  replace hS:=hS.madeL hQ
  refine ⟨⟨St.pick [4,5] (by decide) hS,(hS.frz (i:=6) rfl hlow)⟩,?_⟩
  refine WT.s [] [13] kr kr ?_
  refine WRun.fin ?_
  refine all_cons ?_ (At)
  obtain ⟨ν98,bD,hlow,hS,c3⟩:=hS.freeze (i:=6) (j:=3) rfl rfl (by decide) hlow
  replace a5:=Frz.le_trans a5 bD.1
  replace hext:=Frz.ext_trans hext bD
  have a0:=ArrM.of_arr c3
  obtain ⟨ν102,b9,hlow,hS,c4⟩:=hS.freeze (i:=5) (j:=2) rfl rfl (by decide) hlow
  replace a0:=a0.mono b9.1
  replace a5:=Frz.le_trans a5 b9.1
  replace hext:=Frz.ext_trans hext b9
  have a4:=ArrM.of_arr c4
  obtain ⟨ν106,b5,hlow,hS,c5⟩:=hS.freeze (i:=4) (j:=1) rfl rfl (by decide) hlow
  replace a0:=a0.mono b5.1
  replace a4:=a4.mono b5.1
  replace a5:=Frz.le_trans a5 b5.1
  replace hext:=Frz.ext_trans hext b5
  have a6:=ArrM.of_arr c5
  obtain ⟨ν110,b2,hlow,hS,c6⟩:=hS.freeze (i:=3) (j:=0) rfl rfl (by decide) hlow
  replace a0:=a0.mono b2.1
  replace a4:=a4.mono b2.1
  replace a6:=a6.mono b2.1
  replace a5:=Frz.le_trans a5 b2.1
  replace hext:=Frz.ext_trans hext b2
  replace hS:St w0 [arr 5 1 (fK .u8) ad4 y3.length cap5 y3,blk b1 149 p0.ar,fz w0 ν110] w:=hS
  have aK:=ArrM.of_arr c6
  have aL:All2 (Rp22 ν110) ([[sv aE a8 aH],[sv aF a9 aI],[sv aG aA aJ],[sv aR aD aU]]:List (List Value)) [a8,a9,aA,aD]:=(All2.cons ⟨aE,aH,rfl,a0⟩ (All2.cons ⟨aF,aI,rfl,a4⟩ (All2.cons ⟨aG,aJ,rfl,a6⟩ (All2.cons ⟨aR,aU,rfl,aK⟩ All2.nil))))
  refine Qp (e:=22) (sz:=1) (f:=fN 1) (t:=105) (len:=4) (fun b7=>[(1,pb b1),(3,sv ad4 y3 cap5),(16,sv ad4 y3 cap5),(29,sb b7 4)]) #[(0,sv aE a8 aH),(1,sv aF a9 aI),(2,sv aG aA aJ),(3,sv aR aD aU)] #[sv aE a8 aH,sv aF a9 aI,sv aG aA aJ,sv aR aD aU] ([[sv aE a8 aH],[sv aF a9 aI],[sv aG aA aJ],[sv aR aD aU]]:List (List Value)) ([a8,a9,aA,aD]) hF hS kr ⟨kr⟩ kr (Bz 1) rfl rfl rfl kr (fun _=>⟨kr⟩) fun b7 w a hF hS=>⟨⟨St.pick [1,2] (by decide) hS,(hS.frz (i:=3) rfl hlow).low a5⟩,?_⟩
  refine WT.s [] [14] kr kr ?_
  refine WRun.fin ?_
  refine all_cons ?_ (At)
  refine rR (fun bE=>[(1,pb b1),(3,sv ad4 y3 cap5),(16,sv ad4 y3 cap5),(30,bE)]) hF (Gz F _ _ c2 (Ay w) w (A5 w) (ArrQ.of_own (hS.arr (i:=0) rfl) aL Rp22.mono (FrzAt.le_mem (hS.frz (i:=3) rfl hlow)))) ?_
  rintro bE w a ⟨bN,bO,rfl,hQ⟩ hF
  replace hS:=hS.madeL hQ
  refine ⟨⟨St.pick [2,3] (by decide) hS,(hS.frz (i:=4) rfl hlow).low a5⟩,?_⟩
  refine WT.z [] kr ?_
  refine WRun.fin ?_
  obtain ⟨a1,bR,h⟩:=A1 h
  refine SK.wi (Lq (t:=22) (ty:=22) (bytes:=1) (l:=y3) (l':=bB) (fun a2 a3=>[(1,pb b1),(3,sv ad4 y3 cap5),(31,sv a2 a1 a3)]) 2 hF hS rfl kr ⟨kr⟩ kr (hS.arr (i:=0) rfl) (fun _ _=>rfl) bR (fun _ _=>⟨kr⟩) fun a2 a3 w a hF hS=>?_)
  refine rn 1 17 [(1,pb b1),(3,sv a2 a1 a3)] hF fun a hF=>?_
  refine wfn rfl ?_
  refine Ar ?_
  refine qoB [(34,.bool (p0.Kind==3))] hF (oL 3 3 0 hS.i rfl rfl<|A9) fun a hF=>?_
  refine Aj hF rfl (fun hc=>?_) (fun hc=>?_)
  ·replace h:=Af h hc
   obtain ⟨aN,bU,h⟩:=A1 h
   obtain ⟨aO,bV,h⟩:=A1 h
   obtain ⟨aV,bW,h⟩:=A1 h
   obtain ⟨cA,bY,h⟩:=A1 h
   refine Bt 14 [4,8,11,12,13] _ (D:=fun w=>St w0 [arr 5 1 (fK .u8) bN bB.length bO bB,arr 22 1 (fN 1) (some ⟨b7,0,none⟩) ([a8,a9,aA,aD]).length 4 ([[sv aE a8 aH],[sv aF a9 aI],[sv aG aA aJ],[sv aR aD aU]]:List (List Value)),arr 5 1 (fK .u8) a2 a1.length a3 a1,blk b1 149 p0.ar] w∧FrzAt ν110 w) kr kr hF.size (fun w hx=>?_) (fun _ _ h=>h)
   replace hS:=hS.later hx
   refine ⟨⟨St.pick [0,1,2,3] (by decide) hS,hS.frz (i:=4) rfl hlow⟩,?_⟩
   have aB:=Frz.le_refl ν110
   refine WT.s [0,1,2,3,5,6,7,9,10] [4] kr kr ?_
   refine qC 9 [(35,sv a2 a1 a3),(38,.agg #[iv p0.Steps.1.Lo,iv p0.Steps.1.Hi]),(42,.agg #[iv p0.Steps.2.Lo,iv p0.Steps.2.Hi]),(45,.agg #[iv p0.Turn.Lo,iv p0.Turn.Hi])] hF (oX (.run [] (Instr.indexAt 147 (.pointer (some ⟨b1,3,none⟩)) (iv 0)) (.pointer (some ⟨b1,3,none⟩))) (Bh kr)<|oN 146 3 3 2 (fun _ hd=>hd.1) rfl<|oX (.run [] (Instr.indexAt 147 (.pointer (some ⟨b1,3,none⟩)) (iv 1)) (.pointer (some ⟨b1,5,none⟩))) (Bh kr)<|oN 146 3 5 2 (fun _ hd=>hd.1) rfl<|oN 146 3 12 2 (fun _ hd=>hd.1) rfl<|A9) fun a hF=>?_
   refine WRun.fin ?_
   refine all_cons ?_ (At)
   refine qR (fun bF=>[(39,bF)]) hF (G0 F _ _ bU (Ay w) w (A5 w)) ?_
   rintro bF w a ⟨aP,aS,rfl,hQ⟩ hF
   replace hS:=hS.madeL hQ
   refine ⟨⟨St.pick [1,2,3,4] (by decide) hS,(hS.frz (i:=5) rfl hlow)⟩,?_⟩
   refine WT.s [] [8] kr kr ?_
   refine WRun.fin ?_
   refine all_cons ?_ (At)
   refine qR (fun bG=>[(39,sv aP aN aS),(43,bG)]) hF (G0 F _ _ bV (Ay w) w (A5 w)) ?_
   rintro bG w a ⟨aQ,aT,rfl,hQ⟩ hF
   replace hS:=hS.madeL hQ
   refine ⟨⟨St.pick [2,3,4,5] (by decide) hS,(hS.frz (i:=6) rfl hlow)⟩,?_⟩
   refine WT.s [] [11] kr kr ?_
   refine WRun.fin ?_
   refine all_cons ?_ (At)
   refine qR (fun bH=>[(43,sv aQ aO aT),(46,bH)]) hF (G0 F _ _ bW (Ay w) w (A5 w)) ?_
   rintro bH w a ⟨aW,aY,rfl,hQ⟩ hF
   replace hS:=hS.madeL hQ
   refine ⟨⟨St.pick [3,4,5,6] (by decide) hS,(hS.frz (i:=7) rfl hlow)⟩,?_⟩
   refine WT.s [] [12] kr kr ?_
   refine WRun.fin ?_
   refine all_cons ?_ (At)
   obtain ⟨ν188,aM,hlow,hS,c7⟩:=hS.freeze (i:=7) (j:=2) rfl rfl (by decide) hlow
   replace a0:=a0.mono aM.1
   replace a4:=a4.mono aM.1
   replace a6:=a6.mono aM.1
   replace aK:=aK.mono aM.1
   replace aL:=All2.mono Rp22.mono aM.1 aL
   replace aB:=Frz.le_trans aB aM.1
   replace hext:=Frz.ext_trans hext aM
   have b0:=ArrM.of_arr c7
   obtain ⟨ν192,aC,hlow,hS,c8⟩:=hS.freeze (i:=6) (j:=1) rfl rfl (by decide) hlow
   replace a0:=a0.mono aC.1
   replace a4:=a4.mono aC.1
   replace a6:=a6.mono aC.1
   replace aK:=aK.mono aC.1
   replace aL:=All2.mono Rp22.mono aC.1 aL
   replace b0:=b0.mono aC.1
   replace aB:=Frz.le_trans aB aC.1
   replace hext:=Frz.ext_trans hext aC
   have b8:=ArrM.of_arr c8
   obtain ⟨ν196,a7,hlow,hS,c9⟩:=hS.freeze (i:=5) (j:=0) rfl rfl (by decide) hlow
   replace a0:=a0.mono a7.1
   replace a4:=a4.mono a7.1
   replace a6:=a6.mono a7.1
   replace aK:=aK.mono a7.1
   replace aL:=All2.mono Rp22.mono a7.1 aL
   replace b0:=b0.mono a7.1
   replace b8:=b8.mono a7.1
   replace aB:=Frz.le_trans aB a7.1
   replace hext:=Frz.ext_trans hext a7
   have bP:=ArrM.of_arr c9
   have bT:All2 (Rp22 ν196) ([[sv aP aN aS],[sv aQ aO aT],[sv aW aV aY]]:List (List Value)) [aN,aO,aV]:=(All2.cons ⟨aP,aS,rfl,b0⟩ (All2.cons ⟨aQ,aT,rfl,b8⟩ (All2.cons ⟨aW,aY,rfl,bP⟩ All2.nil)))
   refine Qp (e:=22) (sz:=1) (f:=fN 1) (t:=105) (len:=3) (fun bC=>[(3,sv a2 a1 a3),(35,sv a2 a1 a3),(47,sb bC 3)]) #[(0,sv aP aN aS),(1,sv aQ aO aT),(2,sv aW aV aY)] #[sv aP aN aS,sv aQ aO aT,sv aW aV aY] ([[sv aP aN aS],[sv aQ aO aT],[sv aW aV aY]]:List (List Value)) ([aN,aO,aV]) hF hS kr ⟨kr⟩ kr (Bz 1) rfl rfl rfl kr (fun _=>⟨kr⟩) fun bC w a hF hS=>⟨⟨St.pick [1,2,3,4] (by decide) hS,(hS.frz (i:=5) rfl hlow).low aB⟩,?_⟩
   refine WT.s [] [13] kr kr ?_
   refine WRun.fin ?_
   refine all_cons ?_ (At)
   refine rR (fun bI=>[(3,sv a2 a1 a3),(35,sv a2 a1 a3),(48,bI)]) hF (Gz F _ _ bY (Ay w) w (A5 w) (ArrQ.of_own (hS.arr (i:=0) rfl) bT Rp22.mono (FrzAt.le_mem (hS.frz (i:=5) rfl hlow)))) ?_
   rintro bI w a ⟨cB,cC,rfl,hQ⟩ hF
   replace hS:=hS.madeL hQ
   refine ⟨⟨St.pick [2,3,4,5] (by decide) hS,(hS.frz (i:=6) rfl hlow).low aB⟩,?_⟩
   refine WT.z [] kr ?_
   refine WRun.fin ?_
   obtain ⟨b6,bS,h⟩:=A1 h
   refine SK.wi (Lq (t:=22) (ty:=22) (bytes:=1) (l:=a1) (l':=cA) (fun aX aZ=>[(3,sv a2 a1 a3),(49,sv aX b6 aZ)]) 4 hF hS rfl kr ⟨kr⟩ kr (hS.arr (i:=0) rfl) (fun _ _=>rfl) bS (fun _ _=>⟨kr⟩) fun aX aZ w a hF hS=>?_)
   refine rn 1 16 [(3,sv aX b6 aZ)] hF fun a hF=>?_
   refine wfn rfl ?_
   refine rnB [(2,sv aX b6 aZ)] hF fun a hF=>?_
   refine wpIn_ret (Ad [.tmp 2] [sv aX b6 aZ] hF rfl ⟨rfl,trivial⟩ ?_)
   obtain rfl:=Ao h
   exact ⟨_,rfl,_,_,rfl,St.pick [4] (by decide) hS⟩
  ·replace h:=Ae h hc
   refine wpIn_skip (A0 ?_)
   refine rnB [(2,sv a2 a1 a3)] hF fun a hF=>?_
   refine wpIn_ret (Ad [.tmp 2] [sv a2 a1 a3] hF rfl ⟨rfl,trivial⟩ ?_)
   obtain rfl:=Ao h
   exact ⟨_,rfl,_,_,rfl,St.pick [2] (by decide) hS⟩
theorem Ty (F:Nat) (p0:(List api_Span)) (res:(List Int)) (h:Jv F p0=some res) (μ:Frz) (w0:World) (hm:FrzAt μ w0) {ad1:Option Addr} {cap2:Nat} (hA3:ArrM μ 2 api_Span.cells ad1 cap2 p0):Bj Tryz.prog 108 #[sv ad1 p0 cap2] w0 (fun e w=>∃zad0 zcap0,e=(sv zad0 res zcap0)∧St w0 [arr 5 1 (fK .u8) zad0 res.length zcap0 res] w):=by
 obtain ⟨hlow,hS⟩:=hm.init
 have hext:=Frz.ext_refl w0.heap.size μ
 rw [Jv] at h
 refine Ag Tryz.func108 rfl 55 [(0,sv ad1 p0 cap2)] rfl rfl kr fun a w hw hF=>?_
 replace hS:=hS.cast hw
 clear hw
 refine qnB [] hF fun a hF=>?_
 refine qnB [(3,.slice none 0 0)] hF fun a hF=>?_
 refine esr ?_
 refine qn 1 1 [(7,.agg #[iv 0,iv 0])] hF fun a hF=>?_
 refine SK.wi (qA 146 #[iv 0,iv 0] (fun b4=>[(4,pb b4)]) hF hS fun b4 w a hF hS=>?_)
 refine SK.wi (qS 146 0 0 (.agg #[iv 0,iv 0]) #[iv 0,iv 0] hF hS rfl fun w a hF hS=>?_)
 refine wfn rfl ?_
 refine D9 (fun a w=>∃(aM:Int) (aN:Int) (aA:(List Int)) (aF:Option Addr) (aH:Nat),Fr 55 [] [(3,sv aF aA aH)] a∧St w0 [arr 5 1 (fK .u8) aF aA.length aH aA,blk b4 146 #[iv aM,iv aN],fz w0 μ] w∧Hl aM aN aA=some res) ?_ ?_
 ·skip
  refine qnB [(5,iv 0)] hF fun a hF=>?_
  refine wpIn_block ?_
  replace hS:=hS.nilarr 5 1 (fK .u8)
  refine Ci (fun n_ a w=>∃(a1:Int) (a2:Int) (a0:(List Int)) (a3:Int) (a4:Option Addr) (a5:Nat),Fr 55 [] [(0,sv ad1 p0 cap2),(3,sv a4 a0 a5),(4,pb b4),(5,iv a3)] a∧St w0 [arr 5 1 (fK .u8) a4 a0.length a5 a0,blk b4 146 #[iv a1,iv a2],fz w0 μ] w∧F5 F p0 n_ a1 a2 a0 a3=some res) F ⟨0,0,[],0,none,0,hF.sub kr,St.pick [0,1,2] (by decide) hS,h⟩ ?_
  rintro nk2 a w ⟨a1,a2,a0,a3,a4,a5,hF,hS,h⟩
  rcases nk2 with _|nk2
  ·cases (show (none:Option (List Int))=some res from h)
  obtain ⟨k2,hk2⟩:∃k,k=F5 F p0 nk2:=⟨_,rfl⟩
  replace h:Hk F p0 k2 a1 a2 a0 a3=some res:=by rw [hk2];exact h
  rw [Hk] at h
  refine Ar ?_
  refine qnB [(11,.bool (decide (a3<(ln p0))))] hF fun a hF=>?_
  refine Aj hF rfl (fun hc=>?_) (fun hc=>?_)
  ·replace h:=Af h hc
   refine wpIn_skip (A0 ?_)
   refine wpIn_block ?_
   refine qnB [(6,iv 0)] hF fun a hF=>?_
   refine D9 (fun a w=>∃(aC:Int),Fr 55 [] [(0,sv ad1 p0 cap2),(3,sv a4 a0 a5),(4,pb b4),(5,iv a3),(6,iv aC)] a∧St w0 [arr 5 1 (fK .u8) a4 a0.length a5 a0,blk b4 146 #[iv a1,iv a2],fz w0 μ] w∧Hm F p0 a1 a2 a0 a3 k2 aC=some res) ?_ ?_
   ·skip
    refine wpIn_block ?_
    refine Ci (fun n_ a w=>∃(aD:Int),Fr 55 [] [(0,sv ad1 p0 cap2),(3,sv a4 a0 a5),(4,pb b4),(5,iv a3),(6,iv aD)] a∧St w0 [arr 5 1 (fK .u8) a4 a0.length a5 a0,blk b4 146 #[iv a1,iv a2],fz w0 μ] w∧Gf F p0 a1 a2 a0 a3 k2 n_ aD=some res) F ⟨0,hF.sub kr,St.pick [0,1,2] (by decide) hS,h⟩ ?_
    rintro nk4 a w ⟨aD,hF,hS,h⟩
    rcases nk4 with _|nk4
    ·cases (show (none:Option (List Int))=some res from h)
    obtain ⟨k4,hk4⟩:∃k,k=Gf F p0 a1 a2 a0 a3 k2 nk4:=⟨_,rfl⟩
    replace h:K9 F p0 a1 a2 a0 a3 k2 k4 aD=some res:=by rw [hk4];exact h
    rw [K9] at h
    refine Ar ?_
    refine Ar ?_
    obtain ⟨aE,b0,h⟩:=A1 h
    obtain ⟨aK,b1,h⟩:=A1 h
    obtain ⟨a6,aQ,h⟩:=A1 h
    refine qD 16 [(27,.bool (bif (decide (aE<(ln p0))) then (((a6.Lo:Int)==a1)&&(((a6.Hi:Int)==a2)&&true)) else false))] hF (oA 3 b0<|oX (.run [⟨18,true,(decide (aE<(ln p0)))⟩] (binOp .add 3 (iv a3) (iv aD)) (iv aK)) (R2 (fun hk=>Cx b1 hk))<|oX (.run [⟨18,true,(decide (aE<(ln p0)))⟩] (Instr.indexAt 44 (sv ad1 p0 cap2) (iv aK)) (.pointer (some (Bc ad1 aK 2)))) (Gj (hA3 _ (hS.frz (i:=2) rfl hlow)) kr (fun hk=>Cx aQ hk))<|oX (.run [⟨18,true,(decide (aE<(ln p0)))⟩] (Instr.loadAt 146 (.pointer (some (Bc ad1 aK 2)))) (.agg #[iv a6.Lo,iv a6.Hi])) (Nx (m:=2) (i:=aK) (us:=[iv a6.Lo,iv a6.Hi]) 0 api_Span.cells_len (fun _ hd=>(hA3 _ ((hS.later hd).frz (i:=2) rfl hlow))) kr (fun hk=>Cx aQ hk) ⟨rfl,rfl⟩)<|oX (.run [⟨18,true,(decide (aE<(ln p0)))⟩] (Instr.loadAt 146 (pb b4)) (.agg #[iv a1,iv a2])) (obN (us:=[iv a1,iv a2]) kr (fun _ hd=>((hS.later hd).blk (i:=1) rfl).cells rfl))<|oX (.run [⟨18,true,(decide (aE<(ln p0)))⟩] (eqS .eql 146 #[iv a6.Lo,iv a6.Hi] #[iv a1,iv a2]) (.bool (((a6.Lo:Int)==a1)&&(((a6.Hi:Int)==a2)&&true)))) (Lf kr kr)<|A9) fun a w hF hx=>?_
    replace hS:=hS.later hx
    refine wfn rfl ?_
    refine Aj hF rfl (fun hc=>?_) (fun hc=>?_)
    ·replace h:=Af h hc
     refine wpIn_skip (A0 ?_)
     refine wpIn_block ?_
     refine WI.region ?_
     obtain ⟨aV,b2,h⟩:=A1 h
     refine ro 3 3 [(0,sv ad1 p0 cap2),(3,sv a4 a0 a5),(4,pb b4),(5,iv a3),(6,iv aV)] hF (oA 3 b2<|A9) fun a hF=>?_
     refine WI.fin rfl (Ab<|A0<|?_)
     rw [hk4] at h
     exact ⟨nk4,Nat.lt_succ_self _,aV,hF.sub kr,St.pick [0,1,2] (by decide) hS,h⟩
    ·replace h:=Ae h hc
     refine wpIn_exit (Aa<|Aa<|Av<|A0 ?_)
     exact ⟨aD,hF.sub kr,St.pick [0,1,2] (by decide) hS,h⟩
   rintro a w ⟨aC,hF,hS,h⟩
   rw [Hm] at h
   refine esr ?_
   refine qn 2 2 [(30,sv a4 a0 a5),(31,iv aC)] hF fun a hF=>?_
   obtain ⟨b6,b3,h⟩:=A1 h
   refine SK.wi (qR (fun aS=>[(32,aS)]) hF (Au F _ _ b3 (Ay w) w (A5 w)) ?_)
   rintro aS w a ⟨b8,bA,rfl,hQ⟩ hF
   replace hS:=hS.madeL hQ
   obtain ⟨aB,aW,h⟩:=A1 h
   refine SK.wi (Lq (t:=22) (ty:=22) (bytes:=1) (l:=a0) (l':=b6) (fun a8 a9=>[(0,sv ad1 p0 cap2),(3,sv a4 a0 a5),(4,pb b4),(5,iv a3),(6,iv aC),(33,sv a8 aB a9)]) 1 hF hS rfl kr ⟨kr⟩ kr (hS.arr (i:=0) rfl) (fun _ _=>rfl) aW (fun _ _=>⟨kr⟩) fun a8 a9 w a hF hS=>?_)
   refine rn 1 5 [(0,sv ad1 p0 cap2),(3,sv a8 aB a9),(4,pb b4),(5,iv a3),(6,iv aC)] hF fun a hF=>?_
   refine wfn rfl ?_
   refine esr ?_
   obtain ⟨aJ,aY,h⟩:=A1 h
   refine ro 4 4 [(0,sv ad1 p0 cap2),(3,sv a8 aB a9),(4,pb b4),(5,iv aJ)] hF (oA 3 aY<|A9) fun a hF=>?_
   refine wfn rfl ?_
   refine qnB [(40,.bool (decide (aJ<(ln p0))))] hF fun a hF=>?_
   refine Aj hF rfl (fun hc=>?_) (fun hc=>?_)
   ·replace h:=Af h hc
    refine esr ?_
    obtain ⟨aR,aO,h⟩:=A1 h
    refine qo 5 5 [(41,sv a8 aB a9),(45,.agg #[iv aR.Lo,iv aR.Hi])] hF (oI 44 (hA3 _ (hS.frz (i:=3) rfl hlow)) aO<|oG 146 0 2 api_Span.cells_len (fun _ hd=>(hA3 _ ((hS.at_ hd).frz (i:=3) rfl hlow))) aO<|A9) fun a hF=>?_
    obtain ⟨b7,b5,h⟩:=A1 h
    refine SK.wi (qR (fun aT=>[(46,aT)]) hF (G0 F _ _ b5 (Ay w) w (A5 w)) ?_)
    rintro aT w a ⟨b9,bB,rfl,hQ⟩ hF
    replace hS:=hS.madeL hQ
    obtain ⟨aL,aX,h⟩:=A1 h
    refine SK.wi (Lq (t:=22) (ty:=22) (bytes:=1) (l:=aB) (l':=b7) (fun aG aI=>[(0,sv ad1 p0 cap2),(3,sv a8 aB a9),(4,pb b4),(5,iv aJ),(47,sv aG aL aI)]) 2 hF hS rfl kr ⟨kr⟩ kr (hS.arr (i:=0) rfl) (fun _ _=>rfl) aX (fun _ _=>⟨kr⟩) fun aG aI w a hF hS=>?_)
    refine rn 1 8 [(0,sv ad1 p0 cap2),(3,sv aG aL aI),(4,pb b4),(5,iv aJ)] hF fun a hF=>?_
    refine wfn rfl ?_
    refine esr ?_
    obtain ⟨a7,aP,h⟩:=A1 h
    refine qo 4 4 [(51,.agg #[iv a7.Lo,iv a7.Hi])] hF (oI 44 (hA3 _ (hS.frz (i:=4) rfl hlow)) aP<|oG 146 0 2 api_Span.cells_len (fun _ hd=>(hA3 _ ((hS.at_ hd).frz (i:=4) rfl hlow))) aP<|A9) fun a hF=>?_
    refine SK.wi (qS 146 3 0 (.agg #[iv a7.Lo,iv a7.Hi]) #[iv a7.Lo,iv a7.Hi] hF hS rfl fun w a hF hS=>?_)
    refine wfn rfl ?_
    refine WI.region ?_
    obtain ⟨aU,aZ,h⟩:=A1 h
    refine ro 3 3 [(0,sv ad1 p0 cap2),(3,sv aG aL aI),(4,pb b4),(5,iv aU)] hF (oA 3 aZ<|A9) fun a hF=>?_
    refine WI.fin rfl (Ab<|A0<|?_)
    rw [hk2] at h
    exact ⟨nk2,Nat.lt_succ_self _,a7.Lo,a7.Hi,aL,aU,aG,aI,hF.sub kr,St.pick [2,3,4] (by decide) hS,h⟩
   ·replace h:=Ae h hc
    refine wpIn_skip (Ab<|A0<|?_)
    rw [hk2] at h
    exact ⟨nk2,Nat.lt_succ_self _,a1,a2,aB,aJ,a8,a9,hF.sub kr,St.pick [1,2,3] (by decide) hS,h⟩
  ·replace h:=Ae h hc
   refine wpIn_exit (Aa<|Aa<|Av<|A0 ?_)
   exact ⟨a1,a2,a0,a4,a5,hF.sub kr,St.pick [0,1,2] (by decide) hS,h⟩
 rintro a w ⟨aM,aN,aA,aF,aH,hF,hS,h⟩
 rw [Hl] at h
 refine rnB [(2,sv aF aA aH)] hF fun a hF=>?_
 refine wpIn_ret (Ad [.tmp 2] [sv aF aA aH] hF rfl ⟨rfl,trivial⟩ ?_)
 obtain rfl:=Ao h
 exact ⟨_,rfl,_,_,rfl,St.pick [0] (by decide) hS⟩
end Go.Proofs.YtifbomimeodibaaGreat
