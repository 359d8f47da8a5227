import Derived.Test.YtifbomimeodibaaV4XD
import Derived.Test.YtifbomimeodibaaProg
import Derived.Test.YtifbomimeodibaaV4XW1
import Derived.Test.YtifbomimeodibaaV4XW3
import Derived.Test.YtifbomimeodibaaV4XW4
namespace Go.Proofs.Ytifbomimeodibaa
open Go Go.RowKit Go.Eng
set_option maxRecDepth 10000
set_option maxHeartbeats 4000000
set_option linter.unusedVariables false
set_option linter.unusedSimpArgs false
theorem Pn (F:Nat) (p0:api_Sweep) (res:Int) (h:Gu F p0=some res) (μ:Frz) (w0:World) (hm:FrzAt μ w0) {ad1:Option Addr} {cap2:Nat} {css3:List (List Value)} (hA4:ArrQ μ 1 Rp83 ad1 cap2 css3 p0.Rays):Calls Try.prog 90 #[.agg #[.string p0.Site.Name,iv p0.Site.X,iv p0.Site.Y,iv p0.Site.Z,iv p0.Site.Rose,iv p0.Site.Gates,iv p0.Site.Step,iv p0.Site.Width,iv p0.Tilt,iv p0.Time,sv ad1 p0.Rays cap2]] w0 (fun e w=>e=.returned (iv res)∧Ext w0 w):=by
 obtain ⟨hlow,hS⟩:=hm.init
 have hext:=Frz.ext_refl w0.heap.size μ
 rw [Gu] at h
 refine Aq Try.func90 rfl 69 [(0,.agg #[.string p0.Site.Name,iv p0.Site.X,iv p0.Site.Y,iv p0.Site.Z,iv p0.Site.Rose,iv p0.Site.Gates,iv p0.Site.Step,iv p0.Site.Width,iv p0.Tilt,iv p0.Time,sv ad1 p0.Rays cap2])] rfl rfl kr fun a w hw hF=>?_
 replace hS:=hS.cast hw
 clear hw
 refine esr ?_
 refine SK.wi (H4 (t:=39) (fun b5=>[(1,pb b5)]) (.agg #[.string p0.Site.Name,iv p0.Site.X,iv p0.Site.Y,iv p0.Site.Z,iv p0.Site.Rose,iv p0.Site.Gates,iv p0.Site.Step,iv p0.Site.Width,iv p0.Tilt,iv p0.Time,sv ad1 p0.Rays cap2]) #[.string p0.Site.Name,iv p0.Site.X,iv p0.Site.Y,iv p0.Site.Z,iv p0.Site.Rose,iv p0.Site.Gates,iv p0.Site.Step,iv p0.Site.Width,iv p0.Tilt,iv p0.Time,sv ad1 p0.Rays cap2] hF hS kr ⟨kr⟩ kr (fun _=>⟨kr⟩) fun b5 w a hF hS=>?_)
 refine rn 1 2 [(1,pb b5)] hF fun a hF=>?_
 refine wfn rfl ?_
 refine B0 ?_
 refine esr ?_
 replace h:=A4 h
 obtain ⟨y6,hy6,h⟩:=h
 refine rx 4 [.run [] (Instr.loadAt 36 (pb b5)) (p0.Site.ag),.call [] 49 #[p0.Site.ag] (iv y6)] 4 [(1,pb b5),(3,iv y6)] hF (A0 (obN (us:=p0.Site.cells) kr (fun _ hd=>((hS.later hd).blk (i:=0) rfl).cells rfl)) (A0 (show Ob.ok _ Ext _ _ from fun hk w2 hd=>Me F p0.Site _ ((fun _=>hy6) hk) _ w2 (A7 w2)) Aa)) fun a w hF hx=>?_
 replace hS:=hS.later hx
 refine wfn rfl ?_
 refine esr ?_
 refine rn 2 2 [(1,pb b5),(3,iv y6),(15,.bool (y6 != 0))] hF fun a hF=>?_
 refine wfn rfl ?_
 refine As hF rfl (fun hc=>?_) (fun hc=>?_)
 ·replace h:=Ao h hc
  refine esr ?_
  refine rn 2 2 [(2,iv y6)] hF fun a hF=>?_
  refine wfn rfl ?_
  refine wpIn_ret (Ab<|Ak [.tmp 2] [iv y6] hF rfl ⟨rfl,trivial⟩ ?_)
  have hr_:=Option.some.inj h
  subst hr_
  exact ⟨rfl,hS.ext⟩
 ·replace h:=An h hc
  refine wpIn_skip (A1 ?_)
  refine B0 ?_
  refine esr ?_
  refine rx 10 [.run [] (Instr.loadAt 3 (.pointer (some ⟨b5,8,none⟩))) (iv p0.Tilt),.call [] 94 #[iv p0.Tilt,iv 0,iv 256] (.bool (Au p0.Tilt 0 256)),.run [⟨21,false,(!(Au p0.Tilt 0 256))⟩] (Instr.loadAt 3 (.pointer (some ⟨b5,9,none⟩))) (iv p0.Time),.call [⟨21,false,(!(Au p0.Tilt 0 256))⟩] 94 #[iv p0.Time,iv 0,iv 4294967296] (.bool (Au p0.Time 0 4294967296))] 10 [(1,pb b5),(26,.bool (bif (!(Au p0.Tilt 0 256)) then true else (!(Au p0.Time 0 4294967296))))] hF (A0 (ob1 kr (fun _ hd=>(hS.later hd).cell (i:=0) (j:=8) rfl rfl)) (A0 (show Ob.ok _ Ext _ _ from fun hk w2 hd=>Hc p0.Tilt 0 256 _ rfl _ w2 (A7 w2)) (A0 (ob1 kr (fun _ hd=>(hS.later hd).cell (i:=0) (j:=9) rfl rfl)) (A0 (show Ob.ok _ Ext _ _ from fun hk w2 hd=>Hc p0.Time 0 4294967296 _ rfl _ w2 (A7 w2)) Aa)))) fun a w hF hx=>?_
  replace hS:=hS.later hx
  refine wfn rfl ?_
  refine As hF rfl (fun hc=>?_) (fun hc=>?_)
  ·replace h:=Ao h hc
   refine esr ?_
   refine rn 1 1 [(2,iv 3)] hF fun a hF=>?_
   refine wfn rfl ?_
   refine wpIn_ret (Ab<|Ak [.tmp 2] [iv 3] hF rfl ⟨rfl,trivial⟩ ?_)
   have hr_:=Option.some.inj h
   subst hr_
   exact ⟨rfl,hS.ext⟩
  ·replace h:=An h hc
   refine wpIn_skip (A1 ?_)
   refine B0 ?_
   refine esr ?_
   replace h:=A4 h
   obtain ⟨x7,hx7,h⟩:=h
   refine rno 8 [.run [] (Instr.loadAt 37 (.pointer (some ⟨b5,10,none⟩))) (sv ad1 p0.Rays cap2),.run [] (Instr.loadAt 3 (.pointer (some ⟨b5,4,none⟩))) (iv p0.Site.Rose),.run [] (binOp .mul 3 (iv 4) (iv p0.Site.Rose)) (iv x7)] 8 [(1,pb b5),(34,.bool ((ln p0.Rays) != x7))] hF (A0 (ob1 kr (fun _ hd=>(hS.at_ hd).cell (i:=0) (j:=10) rfl rfl)) (A0 (ob1 kr (fun _ hd=>(hS.at_ hd).cell (i:=0) (j:=4) rfl rfl)) (A0 (K8 (fun _=>hx7)) Aa))) fun a hF=>?_
   refine wfn rfl ?_
   refine As hF rfl (fun hc=>?_) (fun hc=>?_)
   ·replace h:=Ao h hc
    refine esr ?_
    refine rn 1 1 [(2,iv 11)] hF fun a hF=>?_
    refine wfn rfl ?_
    refine wpIn_ret (Ab<|Ak [.tmp 2] [iv 11] hF rfl ⟨rfl,trivial⟩ ?_)
    have hr_:=Option.some.inj h
    subst hr_
    exact ⟨rfl,hS.ext⟩
   ·replace h:=An h hc
    refine wpIn_skip (A1 ?_)
    refine Ei (fun a w=>Fr 69 [] [(1,pb b5)] a∧St w0 [blk b5 39 #[.string p0.Site.Name,iv p0.Site.X,iv p0.Site.Y,iv p0.Site.Z,iv p0.Site.Rose,iv p0.Site.Gates,iv p0.Site.Step,iv p0.Site.Width,iv p0.Tilt,iv p0.Time,sv ad1 p0.Rays cap2],fz w0 μ] w∧Gm F p0=some res) ?_ ?_
    ·skip
     refine esr ?_
     refine rno 4 [.run [] (Instr.loadAt 37 (.pointer (some ⟨b5,10,none⟩))) (sv ad1 p0.Rays cap2)] 4 [(1,pb b5),(36,sv ad1 p0.Rays cap2),(37,iv (ln p0.Rays)),(38,iv 0)] hF (A0 (ob1 kr (fun _ hd=>(hS.at_ hd).cell (i:=0) (j:=10) rfl rfl)) Aa) fun a hF=>?_
     refine wfn rfl ?_
     refine wpIn_block ?_
     refine E4 (fun n_ a w=>∃(a5:Int),Fr 69 [] [(1,pb b5),(36,sv ad1 p0.Rays cap2),(37,iv (ln p0.Rays)),(38,iv a5)] a∧St w0 [blk b5 39 #[.string p0.Site.Name,iv p0.Site.X,iv p0.Site.Y,iv p0.Site.Z,iv p0.Site.Rose,iv p0.Site.Gates,iv p0.Site.Step,iv p0.Site.Width,iv p0.Tilt,iv p0.Time,sv ad1 p0.Rays cap2],fz w0 μ] w∧Ed F p0 n_ a5=some res) F ⟨0,hF.sub kr,St.pick [0,1] (by decide) hS,h⟩ ?_
     rintro nk6 a w ⟨a5,hF,hS,h⟩
     rcases nk6 with _|nk6
     ·cases (show (none:Option Int)=some res from h)
     obtain ⟨k6,hk6⟩:∃k,k=Ed F p0 nk6:=⟨_,rfl⟩
     replace h:Gl F p0 k6 a5=some res:=by rw [hk6];exact h
     rw [Gl] at h
     refine esr ?_
     refine rn 1 1 [(1,pb b5),(36,sv ad1 p0.Rays cap2),(37,iv (ln p0.Rays)),(38,iv a5),(39,.bool (decide (a5<(ln p0.Rays))))] hF fun a hF=>?_
     refine wfn rfl ?_
     refine B0 ?_
     refine As hF rfl (fun hc=>?_) (fun hc=>?_)
     ·replace h:=Ao h hc
      refine wpIn_skip (A1 ?_)
      refine B0 ?_
      refine wpIn_block ?_
      refine esr ?_
      replace h:=A4 h
      obtain ⟨a9,aM,h⟩:=h
      obtain ⟨aS,aH,aK⟩:=Dn hA4.2 aM
      obtain ⟨aD,aE,rfl,aT⟩:=aK
      refine rno 3 [.run [] (Instr.indexAt 37 (sv ad1 p0.Rays cap2) (iv a5)) (.pointer (some (Ag ad1 a5 1))),.run [] (Instr.loadAt 83 (.pointer (some (Ag ad1 a5 1)))) (sv aD a9 aE)] 3 [(1,pb b5),(5,sv aD a9 aE),(36,sv ad1 p0.Rays cap2),(37,iv (ln p0.Rays)),(38,iv a5)] hF (A0 (Bc (hA4.at (hS.frz (i:=1) rfl hlow)) kr (fun _=>aH)) (A0 (Ey (i:=a5) 0 (Dp 1) (fun _ hd=>(hA4.at ((hS.at_ hd).frz (i:=1) rfl hlow))) kr (fun _=>aH) rfl) Aa)) fun a hF=>?_
      refine wfn rfl ?_
      refine esr ?_
      refine rno 6 [.run [] (Instr.loadAt 3 (.pointer (some ⟨b5,5,none⟩))) (iv p0.Site.Gates)] 6 [(1,pb b5),(36,sv ad1 p0.Rays cap2),(37,iv (ln p0.Rays)),(38,iv a5),(47,.bool ((ln a9) != p0.Site.Gates))] hF (A0 (ob1 kr (fun _ hd=>(hS.at_ hd).cell (i:=0) (j:=5) rfl rfl)) Aa) fun a hF=>?_
      refine wfn rfl ?_
      refine As hF rfl (fun hc=>?_) (fun hc=>?_)
      ·replace h:=Ao h hc
       refine esr ?_
       refine rn 1 1 [(2,iv 11)] hF fun a hF=>?_
       refine wfn rfl ?_
       refine wpIn_ret (Ar<|Ab<|Ab<|Ar<|Ab<|Ak [.tmp 2] [iv 11] hF rfl ⟨rfl,trivial⟩ ?_)
       have hr_:=Option.some.inj h
       subst hr_
       exact ⟨rfl,hS.ext⟩
      ·replace h:=An h hc
       refine wpIn_skip (Ac<|A1<|?_)
       refine WI.region ?_
       replace h:=A4 h
       obtain ⟨aC,aP,h⟩:=h
       refine rno 2 [.run [] (binOp .add 3 (iv a5) (iv 1)) (iv aC)] 2 [(1,pb b5),(36,sv ad1 p0.Rays cap2),(37,iv (ln p0.Rays)),(38,iv aC)] hF (A0 (Aw (fun _=>aP)) Aa) fun a hF=>?_
       refine wfn rfl ?_
       rw [hk6] at h
       exact ⟨nk6,Nat.lt_succ_self _,aC,hF.sub kr,St.pick [0,1] (by decide) hS,h⟩
     ·replace h:=An h hc
      refine wpIn_exit (Ad<|Ad<|Bb<|A1 ?_)
      exact ⟨hF.sub kr,St.pick [0,1] (by decide) hS,h⟩
    rintro a w ⟨hF,hS,h⟩
    rw [Gm] at h
    refine Ei (fun a w=>Fr 69 [] [] a∧St w0 [blk b5 39 #[.string p0.Site.Name,iv p0.Site.X,iv p0.Site.Y,iv p0.Site.Z,iv p0.Site.Rose,iv p0.Site.Gates,iv p0.Site.Step,iv p0.Site.Width,iv p0.Tilt,iv p0.Time,sv ad1 p0.Rays cap2],fz w0 μ] w∧Gn=some res) ?_ ?_
    ·skip
     refine esr ?_
     refine rno 4 [.run [] (Instr.loadAt 37 (.pointer (some ⟨b5,10,none⟩))) (sv ad1 p0.Rays cap2)] 4 [(50,sv ad1 p0.Rays cap2),(51,iv (ln p0.Rays)),(52,iv 0)] hF (A0 (ob1 kr (fun _ hd=>(hS.at_ hd).cell (i:=0) (j:=10) rfl rfl)) Aa) fun a hF=>?_
     refine wfn rfl ?_
     refine wpIn_block ?_
     refine E4 (fun n_ a w=>∃(a0:Int),Fr 69 [] [(50,sv ad1 p0.Rays cap2),(51,iv (ln p0.Rays)),(52,iv a0)] a∧St w0 [blk b5 39 #[.string p0.Site.Name,iv p0.Site.X,iv p0.Site.Y,iv p0.Site.Z,iv p0.Site.Rose,iv p0.Site.Gates,iv p0.Site.Step,iv p0.Site.Width,iv p0.Tilt,iv p0.Time,sv ad1 p0.Rays cap2],fz w0 μ] w∧Df F p0 n_ a0=some res) F ⟨0,hF.sub kr,St.pick [0,1] (by decide) hS,h⟩ ?_
     rintro nk3 a w ⟨a0,hF,hS,h⟩
     rcases nk3 with _|nk3
     ·cases (show (none:Option Int)=some res from h)
     obtain ⟨k3,hk3⟩:∃k,k=Df F p0 nk3:=⟨_,rfl⟩
     replace h:Gj F p0 k3 a0=some res:=by rw [hk3];exact h
     rw [Gj] at h
     refine esr ?_
     refine rn 1 1 [(50,sv ad1 p0.Rays cap2),(51,iv (ln p0.Rays)),(52,iv a0),(53,.bool (decide (a0<(ln p0.Rays))))] hF fun a hF=>?_
     refine wfn rfl ?_
     refine B0 ?_
     refine As hF rfl (fun hc=>?_) (fun hc=>?_)
     ·replace h:=Ao h hc
      refine wpIn_skip (A1 ?_)
      refine Ei (fun a w=>Fr 69 [] [(50,sv ad1 p0.Rays cap2),(51,iv (ln p0.Rays)),(52,iv a0)] a∧St w0 [blk b5 39 #[.string p0.Site.Name,iv p0.Site.X,iv p0.Site.Y,iv p0.Site.Z,iv p0.Site.Rose,iv p0.Site.Gates,iv p0.Site.Step,iv p0.Site.Width,iv p0.Tilt,iv p0.Time,sv ad1 p0.Rays cap2],fz w0 μ] w∧Fb a0 k3=some res) ?_ ?_
      ·skip
       refine wpIn_block ?_
       refine esr ?_
       replace h:=A4 h
       obtain ⟨a1,aL,h⟩:=h
       obtain ⟨aR,aG,aJ⟩:=Dn hA4.2 aL
       obtain ⟨a4,a6,rfl,aF⟩:=aJ
       refine rno 3 [.run [] (Instr.indexAt 37 (sv ad1 p0.Rays cap2) (iv a0)) (.pointer (some (Ag ad1 a0 1))),.run [] (Instr.loadAt 83 (.pointer (some (Ag ad1 a0 1)))) (sv a4 a1 a6)] 3 [(7,sv a4 a1 a6),(50,sv ad1 p0.Rays cap2),(51,iv (ln p0.Rays)),(52,iv a0)] hF (A0 (Bc (hA4.at (hS.frz (i:=1) rfl hlow)) kr (fun _=>aG)) (A0 (Ey (i:=a0) 0 (Dp 1) (fun _ hd=>(hA4.at ((hS.at_ hd).frz (i:=1) rfl hlow))) kr (fun _=>aG) rfl) Aa)) fun a hF=>?_
       refine wfn rfl ?_
       refine esr ?_
       refine rn 3 3 [(50,sv ad1 p0.Rays cap2),(51,iv (ln p0.Rays)),(52,iv a0),(56,sv a4 a1 a6),(57,iv (ln a1)),(58,iv 0)] hF fun a hF=>?_
       refine wfn rfl ?_
       refine wpIn_block ?_
       refine E4 (fun n_ a w=>∃(a3:Int),Fr 69 [] [(50,sv ad1 p0.Rays cap2),(51,iv (ln p0.Rays)),(52,iv a0),(56,sv a4 a1 a6),(57,iv (ln a1)),(58,iv a3)] a∧St w0 [blk b5 39 #[.string p0.Site.Name,iv p0.Site.X,iv p0.Site.Y,iv p0.Site.Z,iv p0.Site.Rose,iv p0.Site.Gates,iv p0.Site.Step,iv p0.Site.Width,iv p0.Tilt,iv p0.Time,sv ad1 p0.Rays cap2],fz w0 μ] w∧Dg F a0 k3 a1 n_ a3=some res) F ⟨0,hF.sub kr,St.pick [0,1] (by decide) hS,h⟩ ?_
       rintro nk5 a w ⟨a3,hF,hS,h⟩
       rcases nk5 with _|nk5
       ·cases (show (none:Option Int)=some res from h)
       obtain ⟨k5,hk5⟩:∃k,k=Dg F a0 k3 a1 nk5:=⟨_,rfl⟩
       replace h:Gk F a0 k3 a1 k5 a3=some res:=by rw [hk5];exact h
       rw [Gk] at h
       refine esr ?_
       refine rn 1 1 [(50,sv ad1 p0.Rays cap2),(51,iv (ln p0.Rays)),(52,iv a0),(56,sv a4 a1 a6),(57,iv (ln a1)),(58,iv a3),(59,.bool (decide (a3<(ln a1))))] hF fun a hF=>?_
       refine wfn rfl ?_
       refine B0 ?_
       refine As hF rfl (fun hc=>?_) (fun hc=>?_)
       ·replace h:=Ao h hc
        refine wpIn_skip (A1 ?_)
        refine B0 ?_
        refine wpIn_block ?_
        refine esr ?_
        replace h:=A4 h
        obtain ⟨a2,aI,h⟩:=h
        refine rno 2 [.run [] (Instr.indexAt 83 (sv a4 a1 a6) (iv a3)) (.pointer (some (Ag a4 a3 14))),.run [] (Instr.loadAt 88 (.pointer (some (Ag a4 a3 14)))) (a2.ag)] 2 [(50,sv ad1 p0.Rays cap2),(51,iv (ln p0.Rays)),(52,iv a0),(56,sv a4 a1 a6),(57,iv (ln a1)),(58,iv a3),(61,a2.ag)] hF (A0 (Bc (aF _ (hS.frz (i:=1) rfl hlow)) kr (fun _=>aI)) (A0 (Ft (m:=14) (i:=a3) (us:=a2.cells) 0 api_Echo.cells_len (fun _ hd=>(aF _ ((hS.at_ hd).frz (i:=1) rfl hlow))) kr (fun _=>aI) ⟨rfl,rfl⟩) Aa)) fun a hF=>?_
        refine SK.wi (Bs (t:=88) (fun a8=>[(9,pb a8),(50,sv ad1 p0.Rays cap2),(51,iv (ln p0.Rays)),(52,iv a0),(56,sv a4 a1 a6),(57,iv (ln a1)),(58,iv a3),(61,a2.ag)]) #[iv 0,iv 0,iv 0,iv 0,iv 0,iv 0,iv 0,iv 0,iv 0,iv 0,iv 0,iv 0,iv 0,iv 0] hF hS kr ⟨kr⟩ kr (fun _=>⟨kr⟩) fun a8 w a hF hS=>?_)
        refine SK.wi (Ap (t:=88) [(9,pb a8),(50,sv ad1 p0.Rays cap2),(51,iv (ln p0.Rays)),(52,iv a0),(56,sv a4 a1 a6),(57,iv (ln a1)),(58,iv a3)] 0 0 (a2.ag) a2.ar hF hS rfl kr ⟨kr⟩ kr kr kr kr ⟨kr⟩ fun w a hF hS=>?_)
        refine wfn rfl ?_
        refine esr ?_
        replace h:=A4 h
        obtain ⟨a7,aQ,h⟩:=h
        refine rx 3 [.run [] (Instr.loadAt 88 (pb a8)) (a2.ag),.call [] 95 #[a2.ag] (iv a7)] 3 [(10,iv a7),(50,sv ad1 p0.Rays cap2),(51,iv (ln p0.Rays)),(52,iv a0),(56,sv a4 a1 a6),(57,iv (ln a1)),(58,iv a3)] hF (A0 (obN (us:=a2.cells) kr (fun _ hd=>((hS.later hd).blk (i:=0) rfl).cells rfl)) (A0 (show Ob.ok _ Ext _ _ from fun hk w2 hd=>Q3 F (api_Echo.mk a2.Kind a2.Power ((api_Span.mk a2.Steps.1.Lo a2.Steps.1.Hi),(api_Span.mk a2.Steps.2.Lo a2.Steps.2.Hi)) a2.Spread a2.Ratio a2.Match a2.Turn) _ ((fun _=>aQ) hk) _ w2 (A7 w2)) Aa)) fun a w hF hx=>?_
        replace hS:=hS.later hx
        refine wfn rfl ?_
        refine esr ?_
        refine rn 2 2 [(10,iv a7),(50,sv ad1 p0.Rays cap2),(51,iv (ln p0.Rays)),(52,iv a0),(56,sv a4 a1 a6),(57,iv (ln a1)),(58,iv a3),(65,.bool (a7 != 0))] hF fun a hF=>?_
        refine wfn rfl ?_
        refine As hF rfl (fun hc=>?_) (fun hc=>?_)
        ·replace h:=Ao h hc
         refine esr ?_
         refine rn 2 2 [(2,iv a7)] hF fun a hF=>?_
         refine wfn rfl ?_
         refine wpIn_ret (Ar<|Ab<|Ab<|Ar<|Ar<|Ab<|Ab<|Ar<|Ab<|Ak [.tmp 2] [iv a7] hF rfl ⟨rfl,trivial⟩ ?_)
         have hr_:=Option.some.inj h
         subst hr_
         exact ⟨rfl,hS.ext⟩
        ·replace h:=An h hc
         refine wpIn_skip (Ac<|A1<|?_)
         refine WI.region ?_
         replace h:=A4 h
         obtain ⟨aB,aO,h⟩:=h
         refine rno 2 [.run [] (binOp .add 3 (iv a3) (iv 1)) (iv aB)] 2 [(50,sv ad1 p0.Rays cap2),(51,iv (ln p0.Rays)),(52,iv a0),(56,sv a4 a1 a6),(57,iv (ln a1)),(58,iv aB)] hF (A0 (Aw (fun _=>aO)) Aa) fun a hF=>?_
         refine wfn rfl ?_
         rw [hk5] at h
         exact ⟨nk5,Nat.lt_succ_self _,aB,hF.sub kr,St.pick [1,2] (by decide) hS,h⟩
       ·replace h:=An h hc
        refine wpIn_exit (Ad<|Ad<|Bb<|Ac<|A1<|?_)
        exact ⟨hF.sub kr,St.pick [0,1] (by decide) hS,h⟩
      rintro a w ⟨hF,hS,h⟩
      rw [Fb] at h
      refine WI.region ?_
      replace h:=A4 h
      obtain ⟨aA,aN,h⟩:=h
      refine rno 2 [.run [] (binOp .add 3 (iv a0) (iv 1)) (iv aA)] 2 [(50,sv ad1 p0.Rays cap2),(51,iv (ln p0.Rays)),(52,iv aA)] hF (A0 (Aw (fun _=>aN)) Aa) fun a hF=>?_
      refine wfn rfl ?_
      rw [hk3] at h
      exact ⟨nk3,Nat.lt_succ_self _,aA,hF.sub kr,St.pick [0,1] (by decide) hS,h⟩
     ·replace h:=An h hc
      refine wpIn_exit (Ad<|Ad<|Bb<|A1 ?_)
      exact ⟨hF.sub kr,St.pick [0,1] (by decide) hS,h⟩
    rintro a w ⟨hF,hS,h⟩
    rw [Gn] at h
    refine esr ?_
    refine rn 1 1 [(2,iv 0)] hF fun a hF=>?_
    refine wfn rfl ?_
    refine wpIn_ret (Ak [.tmp 2] [iv 0] hF rfl ⟨rfl,trivial⟩ ?_)
    have hr_:=Option.some.inj h
    subst hr_
    exact ⟨rfl,hS.ext⟩
theorem Nc (F:Nat) (p0:volume_reader) (res:Except (Value×volume_reader) (api_Echo×volume_reader)) (h:Fc F p0=some res) (μ:Frz) (w0 w1:World) (T_:List Res) (hlow:Ba w0 μ) {cb0:Nat} {ad1:Option Addr} {cap2:Nat} (hA3:ArrM μ 1 (fK .u8) ad1 cap2 p0.b) (hS:St w0 (fz w0 μ::blk cb0 98 #[sv ad1 p0.b cap2]::T_) w1):Mx Try.prog 51 #[pb cb0] w1 res (fun r_ e w=>∃(ν_:Frz) (aW:Option Addr) (aY:Nat),μ.ext w0.heap.size ν_∧Ba w0 ν_∧e=(r_.1.ag)∧(ArrM ν_ 1 (fK .u8) aW aY r_.2.b)∧St w0 (fz w0 ν_::blk cb0 98 #[sv aW r_.2.b aY]::T_) w) (fun e_ w=>∃(ν_:Frz) (aX:Option Addr) (aZ:Nat),μ.ext w0.heap.size ν_∧Ba w0 ν_∧(ArrM ν_ 1 (fK .u8) aX aZ e_.b)∧St w0 (fz w0 ν_::blk cb0 98 #[sv aX e_.b aZ]::T_) w):=by
 rw [Fc] at h
 have hext:=Frz.ext_refl w0.heap.size μ
 refine Aq Try.func51 rfl 42 [(0,pb cb0)] rfl rfl kr fun a w hw hF=>?_
 replace hS:=hS.cast hw
 clear hw
 refine esr ?_
 refine SK.wi (Bs (t:=88) (fun b4=>[(0,pb cb0),(2,pb b4)]) #[iv 0,iv 0,iv 0,iv 0,iv 0,iv 0,iv 0,iv 0,iv 0,iv 0,iv 0,iv 0,iv 0,iv 0] hF hS kr ⟨kr⟩ kr (fun _=>⟨kr⟩) fun b4 w a hF hS=>?_)
 refine wfn rfl ?_
 refine esr ?_
 refine rn 1 1 [(0,pb cb0),(2,pb b4),(4,pb cb0)] hF fun a hF=>?_
 replace h:=A4 h
 obtain ⟨y5,hy5,h⟩:=h
 replace hS:=hS.s2.s2
 refine Dv (fun b1=>[(0,pb cb0),(2,pb b4),(5,b1)]) hF kr ⟨kr⟩ (Aj F _ _ hy5 μ w0 w _ hlow hA3 hS) (fun _=>⟨kr⟩) ?_ ?_
 ·rintro e7 w he_ ⟨ν14,bF,bR,b0,hlow,c3,hS⟩
  replace h:=G3 h he_
  replace hext:=Frz.ext_trans hext b0
  replace hA3:=hA3.mono b0.1
  refine A6<|B1 hF ?_
  have hr_:=Option.some.inj h
  subst hr_
  replace hS:=hS.d2
  exact .inr ⟨_,rfl,rfl,ν14,bF,bR,hext,hlow,c3,hS⟩
 rintro y6 b1 w a he_ ⟨ν8,cI,cP,hx9,hlow,rfl,a4,hS⟩ hF
 replace h:=G4 h he_
 replace hext:=Frz.ext_trans hext hx9
 replace hA3:=hA3.mono hx9.1
 refine rn 1 3 [(0,pb cb0),(2,pb b4),(6,.agg #[iv y6.1,iv 0,iv 0,iv 0,iv 0,iv 0,iv 0,iv 0,iv 0,iv 0,iv 0,iv 0,iv 0,iv 0])] hF fun a hF=>?_
 refine SK.wi (Bs (t:=88) (fun a0=>[(0,pb cb0),(2,pb b4),(3,pb a0),(6,.agg #[iv y6.1,iv 0,iv 0,iv 0,iv 0,iv 0,iv 0,iv 0,iv 0,iv 0,iv 0,iv 0,iv 0,iv 0])]) #[iv 0,iv 0,iv 0,iv 0,iv 0,iv 0,iv 0,iv 0,iv 0,iv 0,iv 0,iv 0,iv 0,iv 0] hF hS kr ⟨kr⟩ kr (fun _=>⟨kr⟩) fun a0 w a hF hS=>?_)
 refine SK.wi (Ap (t:=88) [(0,pb cb0),(2,pb b4),(3,pb a0)] 0 0 (.agg #[iv y6.1,iv 0,iv 0,iv 0,iv 0,iv 0,iv 0,iv 0,iv 0,iv 0,iv 0,iv 0,iv 0,iv 0]) #[iv y6.1,iv 0,iv 0,iv 0,iv 0,iv 0,iv 0,iv 0,iv 0,iv 0,iv 0,iv 0,iv 0,iv 0] hF hS rfl kr ⟨kr⟩ kr kr kr kr ⟨kr⟩ fun w a hF hS=>?_)
 refine wfn rfl ?_
 refine B0 ?_
 refine esr ?_
 refine rno 3 [.run [] (Instr.loadAt 3 (pb a0)) (iv y6.1)] 3 [(0,pb cb0),(2,pb b4),(3,pb a0),(9,.bool (y6.1==1))] hF (A0 (ob1 kr (fun _ hd=>(hS.at_ hd).cell (i:=0) (j:=0) rfl rfl)) Aa) fun a hF=>?_
 refine wfn rfl ?_
 refine As hF rfl (fun hc=>?_) (fun hc=>?_)
 ·replace h:=Ao h hc
  refine esr ?_
  refine rn 1 1 [(2,pb b4),(3,pb a0),(10,pb cb0)] hF fun a hF=>?_
  replace h:=A4 h
  obtain ⟨d6,cC,h⟩:=h
  replace hS:=hS.s2.s2
  refine Dv (fun b5=>[(2,pb b4),(3,pb a0),(11,b5)]) hF kr ⟨kr⟩ (Aj F _ _ cC ν8 w0 w _ hlow a4 hS) (fun _=>⟨kr⟩) ?_ ?_
  ·rintro cW w he_ ⟨ν29,bH,bT,aT,hlow,c5,hS⟩
   replace h:=G3 h he_
   replace hext:=Frz.ext_trans hext aT
   replace hA3:=hA3.mono aT.1
   replace a4:=a4.mono aT.1
   refine A6<|A6<|B1 hF ?_
   have hr_:=Option.some.inj h
   subst hr_
   replace hS:=hS.d3.d2
   exact .inr ⟨_,rfl,rfl,ν29,bH,bT,hext,hlow,c5,hS⟩
  rintro aD b5 w a he_ ⟨ν23,bG,bS,aS,hlow,rfl,c4,hS⟩ hF
  replace h:=G4 h he_
  replace hext:=Frz.ext_trans hext aS
  replace hA3:=hA3.mono aS.1
  replace a4:=a4.mono aS.1
  refine rn 2 4 [(2,pb b4),(3,pb a0),(11,iv aD.1),(13,.pointer (some ⟨a0,2,none⟩))] hF fun a hF=>?_
  refine SK.wi (Ap (t:=3) [(2,pb b4),(3,pb a0)] 2 2 (iv aD.1) #[iv y6.1,iv 0,iv aD.1,iv 0,iv 0,iv 0,iv 0,iv 0,iv 0,iv 0,iv 0,iv 0,iv 0,iv 0] hF hS rfl kr ⟨kr⟩ kr kr kr kr ⟨kr⟩ fun w a hF hS=>?_)
  refine wfn rfl ?_
  refine esr ?_
  refine rno 1 [.run [] (Instr.loadAt 88 (pb a0)) (.agg #[iv y6.1,iv 0,iv aD.1,iv 0,iv 0,iv 0,iv 0,iv 0,iv 0,iv 0,iv 0,iv 0,iv 0,iv 0])] 1 [(2,pb b4),(14,.agg #[iv y6.1,iv 0,iv aD.1,iv 0,iv 0,iv 0,iv 0,iv 0,iv 0,iv 0,iv 0,iv 0,iv 0,iv 0])] hF (A0 (obN (us:=[iv y6.1,iv 0,iv aD.1,iv 0,iv 0,iv 0,iv 0,iv 0,iv 0,iv 0,iv 0,iv 0,iv 0,iv 0]) kr (fun _ hd=>((hS.at_ hd).blk (i:=2) rfl).cells rfl)) Aa) fun a hF=>?_
  refine SK.wi (Ap (t:=88) [(2,pb b4)] 3 0 (.agg #[iv y6.1,iv 0,iv aD.1,iv 0,iv 0,iv 0,iv 0,iv 0,iv 0,iv 0,iv 0,iv 0,iv 0,iv 0]) #[iv y6.1,iv 0,iv aD.1,iv 0,iv 0,iv 0,iv 0,iv 0,iv 0,iv 0,iv 0,iv 0,iv 0,iv 0] hF hS rfl kr ⟨kr⟩ kr kr kr kr ⟨kr⟩ fun w a hF hS=>?_)
  refine wfn rfl ?_
  refine wpIn_ret (Ab<|Ak [.cell 2 88] [.agg #[iv y6.1,iv 0,iv aD.1,iv 0,iv 0,iv 0,iv 0,iv 0,iv 0,iv 0,iv 0,iv 0,iv 0,iv 0]] hF rfl ⟨⟨_,rfl,Fq (cs:=[iv y6.1,iv 0,iv aD.1,iv 0,iv 0,iv 0,iv 0,iv 0,iv 0,iv 0,iv 0,iv 0,iv 0,iv 0]) kr ((hS.blk (i:=3) rfl).cells rfl)⟩,trivial⟩ ?_)
  have hr_:=Option.some.inj h
  subst hr_
  replace hS:=hS.d3.d2
  exact .inl ⟨_,_,rfl,rfl,ν23,bG,bS,hext,hlow,rfl,c4,hS⟩
 ·replace h:=An h hc
  refine wpIn_skip (A1 ?_)
  refine esr ?_
  refine rn 1 1 [(0,pb cb0),(2,pb b4),(3,pb a0),(15,pb cb0)] hF fun a hF=>?_
  replace h:=A4 h
  obtain ⟨d7,cD,h⟩:=h
  replace hS:=hS.s2.s2
  refine Dv (fun b6=>[(0,pb cb0),(2,pb b4),(3,pb a0),(16,b6)]) hF kr ⟨kr⟩ (Cm F _ _ cD ν8 w0 w _ hlow a4 hS) (fun _=>⟨kr⟩) ?_ ?_
  ·rintro cX w he_ ⟨ν43,bI,bU,aV,hlow,c6,hS⟩
   replace h:=G3 h he_
   replace hext:=Frz.ext_trans hext aV
   replace hA3:=hA3.mono aV.1
   replace a4:=a4.mono aV.1
   refine A6<|B1 hF ?_
   have hr_:=Option.some.inj h
   subst hr_
   replace hS:=hS.d3.d2
   exact .inr ⟨_,rfl,rfl,ν43,bI,bU,hext,hlow,c6,hS⟩
  rintro a1 b6 w a he_ ⟨ν37,cK,cQ,aU,hlow,rfl,a8,hS⟩ hF
  replace h:=G4 h he_
  replace hext:=Frz.ext_trans hext aU
  replace hA3:=hA3.mono aU.1
  replace a4:=a4.mono aU.1
  refine rn 1 3 [(0,pb cb0),(2,pb b4),(3,pb a0),(16,.agg #[iv a1.1.Lo,iv a1.1.Hi]),(17,pb cb0)] hF fun a hF=>?_
  replace h:=A4 h
  obtain ⟨d8,cE,h⟩:=h
  refine Dv (fun b7=>[(0,pb cb0),(2,pb b4),(3,pb a0),(16,.agg #[iv a1.1.Lo,iv a1.1.Hi]),(18,b7)]) hF kr ⟨kr⟩ (Cm F _ _ cE ν37 w0 w _ hlow a8 hS) (fun _=>⟨kr⟩) ?_ ?_
  ·rintro cY w he_ ⟨ν57,bJ,bV,aR,hlow,c7,hS⟩
   replace h:=G3 h he_
   replace hext:=Frz.ext_trans hext aR
   replace hA3:=hA3.mono aR.1
   replace a4:=a4.mono aR.1
   replace a8:=a8.mono aR.1
   refine A6<|B1 hF ?_
   have hr_:=Option.some.inj h
   subst hr_
   replace hS:=hS.d3.d2
   exact .inr ⟨_,rfl,rfl,ν57,bJ,bV,hext,hlow,c7,hS⟩
  rintro a2 b7 w a he_ ⟨ν51,cL,cR,aQ,hlow,rfl,a9,hS⟩ hF
  replace h:=G4 h he_
  replace hext:=Frz.ext_trans hext aQ
  replace hA3:=hA3.mono aQ.1
  replace a4:=a4.mono aQ.1
  replace a8:=a8.mono aQ.1
  refine rn 1 5 [(0,pb cb0),(2,pb b4),(3,pb a0),(16,.agg #[iv a1.1.Lo,iv a1.1.Hi]),(18,.agg #[iv a2.1.Lo,iv a2.1.Hi]),(19,pb cb0)] hF fun a hF=>?_
  replace h:=A4 h
  obtain ⟨d9,cF,h⟩:=h
  refine Dv (fun b8=>[(0,pb cb0),(2,pb b4),(3,pb a0),(16,.agg #[iv a1.1.Lo,iv a1.1.Hi]),(18,.agg #[iv a2.1.Lo,iv a2.1.Hi]),(20,b8)]) hF kr ⟨kr⟩ (Cm F _ _ cF ν51 w0 w _ hlow a9 hS) (fun _=>⟨kr⟩) ?_ ?_
  ·rintro cZ w he_ ⟨ν71,bK,bW,aP,hlow,c8,hS⟩
   replace h:=G3 h he_
   replace hext:=Frz.ext_trans hext aP
   replace hA3:=hA3.mono aP.1
   replace a4:=a4.mono aP.1
   replace a8:=a8.mono aP.1
   replace a9:=a9.mono aP.1
   refine A6<|B1 hF ?_
   have hr_:=Option.some.inj h
   subst hr_
   replace hS:=hS.d3.d2
   exact .inr ⟨_,rfl,rfl,ν71,bK,bW,hext,hlow,c8,hS⟩
  rintro a3 b8 w a he_ ⟨ν65,cM,cS,aO,hlow,rfl,aB,hS⟩ hF
  replace h:=G4 h he_
  replace hext:=Frz.ext_trans hext aO
  replace hA3:=hA3.mono aO.1
  replace a4:=a4.mono aO.1
  replace a8:=a8.mono aO.1
  replace a9:=a9.mono aO.1
  refine rn 1 7 [(0,pb cb0),(2,pb b4),(3,pb a0),(16,.agg #[iv a1.1.Lo,iv a1.1.Hi]),(18,.agg #[iv a2.1.Lo,iv a2.1.Hi]),(20,.agg #[iv a3.1.Lo,iv a3.1.Hi]),(21,.pointer (some ⟨a0,1,none⟩))] hF fun a hF=>?_
  refine SK.wi (Ap (t:=85) [(0,pb cb0),(2,pb b4),(3,pb a0),(18,.agg #[iv a2.1.Lo,iv a2.1.Hi]),(20,.agg #[iv a3.1.Lo,iv a3.1.Hi])] 2 1 (.agg #[iv a1.1.Lo,iv a1.1.Hi]) #[iv y6.1,iv a1.1.Lo,iv a1.1.Hi,iv 0,iv 0,iv 0,iv 0,iv 0,iv 0,iv 0,iv 0,iv 0,iv 0,iv 0] hF hS rfl kr ⟨kr⟩ kr kr kr kr ⟨kr⟩ fun w a hF hS=>?_)
  refine rn 1 9 [(0,pb cb0),(2,pb b4),(3,pb a0),(18,.agg #[iv a2.1.Lo,iv a2.1.Hi]),(20,.agg #[iv a3.1.Lo,iv a3.1.Hi]),(22,.pointer (some ⟨a0,8,none⟩))] hF fun a hF=>?_
  refine SK.wi (Ap (t:=85) [(0,pb cb0),(2,pb b4),(3,pb a0),(20,.agg #[iv a3.1.Lo,iv a3.1.Hi])] 2 8 (.agg #[iv a2.1.Lo,iv a2.1.Hi]) #[iv y6.1,iv a1.1.Lo,iv a1.1.Hi,iv 0,iv 0,iv 0,iv 0,iv 0,iv a2.1.Lo,iv a2.1.Hi,iv 0,iv 0,iv 0,iv 0] hF hS rfl kr ⟨kr⟩ kr kr kr kr ⟨kr⟩ fun w a hF hS=>?_)
  refine rn 1 11 [(0,pb cb0),(2,pb b4),(3,pb a0),(20,.agg #[iv a3.1.Lo,iv a3.1.Hi]),(23,.pointer (some ⟨a0,10,none⟩))] hF fun a hF=>?_
  refine SK.wi (Ap (t:=85) [(0,pb cb0),(2,pb b4),(3,pb a0)] 2 10 (.agg #[iv a3.1.Lo,iv a3.1.Hi]) #[iv y6.1,iv a1.1.Lo,iv a1.1.Hi,iv 0,iv 0,iv 0,iv 0,iv 0,iv a2.1.Lo,iv a2.1.Hi,iv a3.1.Lo,iv a3.1.Hi,iv 0,iv 0] hF hS rfl kr ⟨kr⟩ kr kr kr kr ⟨kr⟩ fun w a hF hS=>?_)
  refine wfn rfl ?_
  refine esr ?_
  refine rn 1 1 [(0,pb cb0),(2,pb b4),(3,pb a0),(24,pb cb0)] hF fun a hF=>?_
  replace h:=A4 h
  obtain ⟨dA,cG,h⟩:=h
  refine Dv (fun b9=>[(0,pb cb0),(2,pb b4),(3,pb a0),(25,b9)]) hF kr ⟨kr⟩ (Aj F _ _ cG ν65 w0 w _ hlow aB hS) (fun _=>⟨kr⟩) ?_ ?_
  ·rintro d0 w he_ ⟨ν85,bM,bY,aM,hlow,c9,hS⟩
   replace h:=G3 h he_
   replace hext:=Frz.ext_trans hext aM
   replace hA3:=hA3.mono aM.1
   replace a4:=a4.mono aM.1
   replace a8:=a8.mono aM.1
   replace a9:=a9.mono aM.1
   replace aB:=aB.mono aM.1
   refine A6<|B1 hF ?_
   have hr_:=Option.some.inj h
   subst hr_
   replace hS:=hS.d3.d2
   exact .inr ⟨_,rfl,rfl,ν85,bM,bY,hext,hlow,c9,hS⟩
  rintro aA b9 w a he_ ⟨ν79,bL,bX,aL,hlow,rfl,aC,hS⟩ hF
  replace h:=G4 h he_
  replace hext:=Frz.ext_trans hext aL
  replace hA3:=hA3.mono aL.1
  replace a4:=a4.mono aL.1
  replace a8:=a8.mono aL.1
  replace a9:=a9.mono aL.1
  replace aB:=aB.mono aL.1
  refine rn 1 3 [(0,pb cb0),(2,pb b4),(3,pb a0),(25,iv aA.1),(26,.pointer (some ⟨a0,7,none⟩))] hF fun a hF=>?_
  refine SK.wi (Ap (t:=3) [(0,pb cb0),(2,pb b4),(3,pb a0)] 2 7 (iv aA.1) #[iv y6.1,iv a1.1.Lo,iv a1.1.Hi,iv 0,iv 0,iv 0,iv 0,iv aA.1,iv a2.1.Lo,iv a2.1.Hi,iv a3.1.Lo,iv a3.1.Hi,iv 0,iv 0] hF hS rfl kr ⟨kr⟩ kr kr kr kr ⟨kr⟩ fun w a hF hS=>?_)
  refine wfn rfl ?_
  refine B0 ?_
  refine esr ?_
  refine rno 3 [.run [] (Instr.loadAt 3 (pb a0)) (iv y6.1)] 3 [(0,pb cb0),(2,pb b4),(3,pb a0),(29,.bool (y6.1==3))] hF (A0 (ob1 kr (fun _ hd=>(hS.at_ hd).cell (i:=2) (j:=0) rfl rfl)) Aa) fun a hF=>?_
  refine wfn rfl ?_
  refine As hF rfl (fun hc=>?_) (fun hc=>?_)
  ·replace h:=Ao h hc
   refine WI.region ?_
   refine rn 1 1 [(0,pb cb0),(2,pb b4),(3,pb a0),(30,pb cb0)] hF fun a hF=>?_
   replace h:=A4 h
   obtain ⟨dB,cH,h⟩:=h
   refine Dv (fun bA=>[(0,pb cb0),(2,pb b4),(3,pb a0),(31,bA)]) hF kr ⟨kr⟩ (Cm F _ _ cH ν79 w0 w _ hlow aC hS) (fun _=>⟨kr⟩) ?_ ?_
   ·rintro d1 w he_ ⟨ν99,bB,bN,aJ,hlow,bZ,hS⟩
    replace h:=G3 h he_
    replace hext:=Frz.ext_trans hext aJ
    replace hA3:=hA3.mono aJ.1
    replace a4:=a4.mono aJ.1
    replace a8:=a8.mono aJ.1
    replace a9:=a9.mono aJ.1
    replace aB:=aB.mono aJ.1
    replace aC:=aC.mono aJ.1
    refine A6<|B1 hF ?_
    have hr_:=Option.some.inj h
    subst hr_
    replace hS:=hS.d3.d2
    exact .inr ⟨_,rfl,rfl,ν99,bB,bN,hext,hlow,bZ,hS⟩
   rintro a5 bA w a he_ ⟨ν93,cN,cT,aK,hlow,rfl,aE,hS⟩ hF
   replace h:=G4 h he_
   replace hext:=Frz.ext_trans hext aK
   replace hA3:=hA3.mono aK.1
   replace a4:=a4.mono aK.1
   replace a8:=a8.mono aK.1
   replace a9:=a9.mono aK.1
   replace aB:=aB.mono aK.1
   replace aC:=aC.mono aK.1
   refine rn 1 3 [(0,pb cb0),(2,pb b4),(3,pb a0),(31,.agg #[iv a5.1.Lo,iv a5.1.Hi]),(32,pb cb0)] hF fun a hF=>?_
   replace h:=A4 h
   obtain ⟨d4,cA,h⟩:=h
   refine Dv (fun b2=>[(0,pb cb0),(2,pb b4),(3,pb a0),(31,.agg #[iv a5.1.Lo,iv a5.1.Hi]),(33,b2)]) hF kr ⟨kr⟩ (Cm F _ _ cA ν93 w0 w _ hlow aE hS) (fun _=>⟨kr⟩) ?_ ?_
   ·rintro cU w he_ ⟨ν113,bC,bO,aI,hlow,c0,hS⟩
    replace h:=G3 h he_
    replace hext:=Frz.ext_trans hext aI
    replace hA3:=hA3.mono aI.1
    replace a4:=a4.mono aI.1
    replace a8:=a8.mono aI.1
    replace a9:=a9.mono aI.1
    replace aB:=aB.mono aI.1
    replace aC:=aC.mono aI.1
    replace aE:=aE.mono aI.1
    refine A6<|B1 hF ?_
    have hr_:=Option.some.inj h
    subst hr_
    replace hS:=hS.d3.d2
    exact .inr ⟨_,rfl,rfl,ν113,bC,bO,hext,hlow,c0,hS⟩
   rintro a6 b2 w a he_ ⟨ν107,cJ,cO,aH,hlow,rfl,aN,hS⟩ hF
   replace h:=G4 h he_
   replace hext:=Frz.ext_trans hext aH
   replace hA3:=hA3.mono aH.1
   replace a4:=a4.mono aH.1
   replace a8:=a8.mono aH.1
   replace a9:=a9.mono aH.1
   replace aB:=aB.mono aH.1
   replace aC:=aC.mono aH.1
   replace aE:=aE.mono aH.1
   refine rn 1 5 [(2,pb b4),(3,pb a0),(31,.agg #[iv a5.1.Lo,iv a5.1.Hi]),(33,.agg #[iv a6.1.Lo,iv a6.1.Hi]),(34,pb cb0)] hF fun a hF=>?_
   replace h:=A4 h
   obtain ⟨d5,cB,h⟩:=h
   refine Dv (fun b3=>[(2,pb b4),(3,pb a0),(31,.agg #[iv a5.1.Lo,iv a5.1.Hi]),(33,.agg #[iv a6.1.Lo,iv a6.1.Hi]),(35,b3)]) hF kr ⟨kr⟩ (Cm F _ _ cB ν107 w0 w _ hlow aN hS) (fun _=>⟨kr⟩) ?_ ?_
   ·rintro cV w he_ ⟨ν127,bE,bQ,aG,hlow,c2,hS⟩
    replace h:=G3 h he_
    replace hext:=Frz.ext_trans hext aG
    replace hA3:=hA3.mono aG.1
    replace a4:=a4.mono aG.1
    replace a8:=a8.mono aG.1
    replace a9:=a9.mono aG.1
    replace aB:=aB.mono aG.1
    replace aC:=aC.mono aG.1
    replace aE:=aE.mono aG.1
    replace aN:=aN.mono aG.1
    refine A6<|B1 hF ?_
    have hr_:=Option.some.inj h
    subst hr_
    replace hS:=hS.d3.d2
    exact .inr ⟨_,rfl,rfl,ν127,bE,bQ,hext,hlow,c2,hS⟩
   rintro a7 b3 w a he_ ⟨ν121,bD,bP,aF,hlow,rfl,c1,hS⟩ hF
   replace h:=G4 h he_
   replace hext:=Frz.ext_trans hext aF
   replace hA3:=hA3.mono aF.1
   replace a4:=a4.mono aF.1
   replace a8:=a8.mono aF.1
   replace a9:=a9.mono aF.1
   replace aB:=aB.mono aF.1
   replace aC:=aC.mono aF.1
   replace aE:=aE.mono aF.1
   replace aN:=aN.mono aF.1
   refine rno 2 [.run [] (Instr.indexAt 86 (.pointer (some ⟨a0,3,none⟩)) (iv 0)) (.pointer (some ⟨a0,3,none⟩))] 8 [(2,pb b4),(3,pb a0),(31,.agg #[iv a5.1.Lo,iv a5.1.Hi]),(33,.agg #[iv a6.1.Lo,iv a6.1.Hi]),(35,.agg #[iv a7.1.Lo,iv a7.1.Hi]),(37,.pointer (some ⟨a0,3,none⟩))] hF (A0 (Ca kr) Aa) fun a hF=>?_
   refine SK.wi (Ap (t:=85) [(2,pb b4),(3,pb a0),(33,.agg #[iv a6.1.Lo,iv a6.1.Hi]),(35,.agg #[iv a7.1.Lo,iv a7.1.Hi])] 2 3 (.agg #[iv a5.1.Lo,iv a5.1.Hi]) #[iv y6.1,iv a1.1.Lo,iv a1.1.Hi,iv a5.1.Lo,iv a5.1.Hi,iv 0,iv 0,iv aA.1,iv a2.1.Lo,iv a2.1.Hi,iv a3.1.Lo,iv a3.1.Hi,iv 0,iv 0] hF hS rfl kr ⟨kr⟩ kr kr kr kr ⟨kr⟩ fun w a hF hS=>?_)
   refine rno 2 [.run [] (Instr.indexAt 86 (.pointer (some ⟨a0,3,none⟩)) (iv 1)) (.pointer (some ⟨a0,5,none⟩))] 11 [(2,pb b4),(3,pb a0),(33,.agg #[iv a6.1.Lo,iv a6.1.Hi]),(35,.agg #[iv a7.1.Lo,iv a7.1.Hi]),(39,.pointer (some ⟨a0,5,none⟩))] hF (A0 (Ca kr) Aa) fun a hF=>?_
   refine SK.wi (Ap (t:=85) [(2,pb b4),(3,pb a0),(35,.agg #[iv a7.1.Lo,iv a7.1.Hi])] 2 5 (.agg #[iv a6.1.Lo,iv a6.1.Hi]) #[iv y6.1,iv a1.1.Lo,iv a1.1.Hi,iv a5.1.Lo,iv a5.1.Hi,iv a6.1.Lo,iv a6.1.Hi,iv aA.1,iv a2.1.Lo,iv a2.1.Hi,iv a3.1.Lo,iv a3.1.Hi,iv 0,iv 0] hF hS rfl kr ⟨kr⟩ kr kr kr kr ⟨kr⟩ fun w a hF hS=>?_)
   refine rn 1 13 [(2,pb b4),(3,pb a0),(35,.agg #[iv a7.1.Lo,iv a7.1.Hi]),(40,.pointer (some ⟨a0,12,none⟩))] hF fun a hF=>?_
   refine SK.wi (Ap (t:=85) [(2,pb b4),(3,pb a0)] 2 12 (.agg #[iv a7.1.Lo,iv a7.1.Hi]) #[iv y6.1,iv a1.1.Lo,iv a1.1.Hi,iv a5.1.Lo,iv a5.1.Hi,iv a6.1.Lo,iv a6.1.Hi,iv aA.1,iv a2.1.Lo,iv a2.1.Hi,iv a3.1.Lo,iv a3.1.Hi,iv a7.1.Lo,iv a7.1.Hi] hF hS rfl kr ⟨kr⟩ kr kr kr kr ⟨kr⟩ fun w a hF hS=>?_)
   refine wfn rfl ?_
   refine esr ?_
   refine rno 1 [.run [] (Instr.loadAt 88 (pb a0)) (.agg #[iv y6.1,iv a1.1.Lo,iv a1.1.Hi,iv a5.1.Lo,iv a5.1.Hi,iv a6.1.Lo,iv a6.1.Hi,iv aA.1,iv a2.1.Lo,iv a2.1.Hi,iv a3.1.Lo,iv a3.1.Hi,iv a7.1.Lo,iv a7.1.Hi])] 1 [(2,pb b4),(41,.agg #[iv y6.1,iv a1.1.Lo,iv a1.1.Hi,iv a5.1.Lo,iv a5.1.Hi,iv a6.1.Lo,iv a6.1.Hi,iv aA.1,iv a2.1.Lo,iv a2.1.Hi,iv a3.1.Lo,iv a3.1.Hi,iv a7.1.Lo,iv a7.1.Hi])] hF (A0 (obN (us:=[iv y6.1,iv a1.1.Lo,iv a1.1.Hi,iv a5.1.Lo,iv a5.1.Hi,iv a6.1.Lo,iv a6.1.Hi,iv aA.1,iv a2.1.Lo,iv a2.1.Hi,iv a3.1.Lo,iv a3.1.Hi,iv a7.1.Lo,iv a7.1.Hi]) kr (fun _ hd=>((hS.at_ hd).blk (i:=2) rfl).cells rfl)) Aa) fun a hF=>?_
   refine SK.wi (Ap (t:=88) [(2,pb b4)] 3 0 (.agg #[iv y6.1,iv a1.1.Lo,iv a1.1.Hi,iv a5.1.Lo,iv a5.1.Hi,iv a6.1.Lo,iv a6.1.Hi,iv aA.1,iv a2.1.Lo,iv a2.1.Hi,iv a3.1.Lo,iv a3.1.Hi,iv a7.1.Lo,iv a7.1.Hi]) #[iv y6.1,iv a1.1.Lo,iv a1.1.Hi,iv a5.1.Lo,iv a5.1.Hi,iv a6.1.Lo,iv a6.1.Hi,iv aA.1,iv a2.1.Lo,iv a2.1.Hi,iv a3.1.Lo,iv a3.1.Hi,iv a7.1.Lo,iv a7.1.Hi] hF hS rfl kr ⟨kr⟩ kr kr kr kr ⟨kr⟩ fun w a hF hS=>?_)
   refine wfn rfl ?_
   refine wpIn_ret (Ak [.cell 2 88] [.agg #[iv y6.1,iv a1.1.Lo,iv a1.1.Hi,iv a5.1.Lo,iv a5.1.Hi,iv a6.1.Lo,iv a6.1.Hi,iv aA.1,iv a2.1.Lo,iv a2.1.Hi,iv a3.1.Lo,iv a3.1.Hi,iv a7.1.Lo,iv a7.1.Hi]] hF rfl ⟨⟨_,rfl,Fq (cs:=[iv y6.1,iv a1.1.Lo,iv a1.1.Hi,iv a5.1.Lo,iv a5.1.Hi,iv a6.1.Lo,iv a6.1.Hi,iv aA.1,iv a2.1.Lo,iv a2.1.Hi,iv a3.1.Lo,iv a3.1.Hi,iv a7.1.Lo,iv a7.1.Hi]) kr ((hS.blk (i:=3) rfl).cells rfl)⟩,trivial⟩ ?_)
   have hr_:=Option.some.inj h
   subst hr_
   replace hS:=hS.d3.d2
   exact .inl ⟨_,_,rfl,rfl,ν121,bD,bP,hext,hlow,rfl,c1,hS⟩
  ·replace h:=An h hc
   refine wpIn_skip (A1 ?_)
   refine esr ?_
   refine rno 1 [.run [] (Instr.loadAt 88 (pb a0)) (.agg #[iv y6.1,iv a1.1.Lo,iv a1.1.Hi,iv 0,iv 0,iv 0,iv 0,iv aA.1,iv a2.1.Lo,iv a2.1.Hi,iv a3.1.Lo,iv a3.1.Hi,iv 0,iv 0])] 1 [(2,pb b4),(41,.agg #[iv y6.1,iv a1.1.Lo,iv a1.1.Hi,iv 0,iv 0,iv 0,iv 0,iv aA.1,iv a2.1.Lo,iv a2.1.Hi,iv a3.1.Lo,iv a3.1.Hi,iv 0,iv 0])] hF (A0 (obN (us:=[iv y6.1,iv a1.1.Lo,iv a1.1.Hi,iv 0,iv 0,iv 0,iv 0,iv aA.1,iv a2.1.Lo,iv a2.1.Hi,iv a3.1.Lo,iv a3.1.Hi,iv 0,iv 0]) kr (fun _ hd=>((hS.at_ hd).blk (i:=2) rfl).cells rfl)) Aa) fun a hF=>?_
   refine SK.wi (Ap (t:=88) [(2,pb b4)] 3 0 (.agg #[iv y6.1,iv a1.1.Lo,iv a1.1.Hi,iv 0,iv 0,iv 0,iv 0,iv aA.1,iv a2.1.Lo,iv a2.1.Hi,iv a3.1.Lo,iv a3.1.Hi,iv 0,iv 0]) #[iv y6.1,iv a1.1.Lo,iv a1.1.Hi,iv 0,iv 0,iv 0,iv 0,iv aA.1,iv a2.1.Lo,iv a2.1.Hi,iv a3.1.Lo,iv a3.1.Hi,iv 0,iv 0] hF hS rfl kr ⟨kr⟩ kr kr kr kr ⟨kr⟩ fun w a hF hS=>?_)
   refine wfn rfl ?_
   refine wpIn_ret (Ak [.cell 2 88] [.agg #[iv y6.1,iv a1.1.Lo,iv a1.1.Hi,iv 0,iv 0,iv 0,iv 0,iv aA.1,iv a2.1.Lo,iv a2.1.Hi,iv a3.1.Lo,iv a3.1.Hi,iv 0,iv 0]] hF rfl ⟨⟨_,rfl,Fq (cs:=[iv y6.1,iv a1.1.Lo,iv a1.1.Hi,iv 0,iv 0,iv 0,iv 0,iv aA.1,iv a2.1.Lo,iv a2.1.Hi,iv a3.1.Lo,iv a3.1.Hi,iv 0,iv 0]) kr ((hS.blk (i:=3) rfl).cells rfl)⟩,trivial⟩ ?_)
   have hr_:=Option.some.inj h
   subst hr_
   replace hS:=hS.d3.d2
   exact .inl ⟨_,_,rfl,rfl,ν79,bL,bX,hext,hlow,rfl,aC,hS⟩
end Go.Proofs.Ytifbomimeodibaa
