import Derived.Test.YtifbomimeodibaaGreatV4XD
import Derived.Test.YtifbomimeodibaaGreatProg
import Derived.Test.YtifbomimeodibaaGreatV4XW1
import Derived.Test.YtifbomimeodibaaGreatV4XW8
import Derived.Test.YtifbomimeodibaaGreatV4XW11
import Derived.Test.YtifbomimeodibaaGreatV4XW12
import Derived.Test.YtifbomimeodibaaGreatV4XW13
namespace Go.Proofs.YtifbomimeodibaaGreat
open Go Go.RowKit Go.Eng
set_option maxRecDepth 10000
set_option maxHeartbeats 4000000
set_option linter.unusedVariables false
set_option linter.unusedSimpArgs false
theorem P2 (F:Nat) (p0:(List volume_Item)) (res:((List Int)×Int)) (h:Et F p0=some res) (μ:Frz) (w0:World) (hm:FrzAt μ w0) {ad1:Option Addr} {cap2:Nat} {css3:List (List Value)} (hA4:ArrQ μ 21 Rp48 ad1 cap2 css3 p0):Bd Tryz.prog 21 #[sv ad1 p0 cap2] w0 (fun e w=>∃zad0 zcap0,e=(.tuple #[sv zad0 res.1 zcap0,iv res.2])∧St w0 [arrT 5 1 (fK .u8) zad0 res.1.length zcap0 res.1] w):=by
 obtain ⟨hlow,hS⟩:=hm.init
 have hext:=Frz.ext_refl w0.heap.size μ
 rw [Et] at h
 refine feW Tryz.func21 36 [(0,sv ad1 p0 cap2)] hS fun a w hF hS=>?_
 refine qnB [] hF fun a hF=>?_
 refine Ak<|qnB [(11,.bool (decide ((ln p0)>1000)))] hF fun a hF=>?_
 refine A8 hF h (fun hc h=>?_) fun hc h=>?_
 ·refine rnB [(2,.slice none 0 0),(3,iv 9)] hF fun a hF=>?_
  refine wpIn_ret (A2<|A9 [.tmp 2,.tmp 3] [_,_] hF rfl ⟨rfl,rfl,trivial⟩ ?_)
  obtain rfl:=Ai h
  replace hS:=hS.nilT 5 1 (fK .u8)
  exact ⟨_,rfl,_,_,rfl,St.pick [0] (by decide) hS⟩
 ·refine wK<|esr<|SK.wi (qL 5 22 4 [82,86,70,49] (fun b5=>[(12,sb b5 4)]) (Bs .u8) hF hS fun b5 w a hF hS=>?_)
  replace hS:St w0 [arrT 5 1 (fK .u8) (some ⟨b5,0,none⟩) ([82,86,70,49]).length 4 ([82,86,70,49]),fz w0 μ] w:=St.toT hS
  refine SK.wi (Pa (src:=22) [(0,sv ad1 p0 cap2),(13,sb b5 4)] 0 hF hS rfl (by decide) kr ⟨kr⟩ kr ⟨kr⟩ fun w a hF hS=>?_)
  refine rn 1 3 [(0,sv ad1 p0 cap2),(4,sb b5 4)] hF fun a hF=>wfn rfl ?_
  refine D4 (fun a w=>∃(a1:(List Int)) (a8:Option Addr) (a9:Nat),Fr 36 [] [(4,sv a8 a1 a9)] a∧St w0 [arrT 5 1 (fK .u8) a8 a1.length a9 a1,fz w0 μ] w∧Jb a1=some res) ?_ ?_
  ·skip
   refine qnB [(14,sv ad1 p0 cap2),(15,iv (ln p0)),(16,iv 0)] hF fun a hF=>?_
   refine wpIn_block<|Cc (fun n_ a w=>∃(a2:Int) (a0:(List Int)) (a3:Option Addr) (a4:Nat),Fr 36 [] [(4,sv a3 a0 a4),(14,sv ad1 p0 cap2),(15,iv (ln p0)),(16,iv a2)] a∧St w0 [arrT 5 1 (fK .u8) a3 a0.length a4 a0,fz w0 μ] w∧Fc F p0 n_ a2 a0=some res) F ⟨0,[82,86,70,49],(some ⟨b5,0,none⟩),4,hF.sub kr,St.pick [0,1] (by decide) hS,h⟩ ?_
   rintro nk2 a w ⟨a2,a0,a3,a4,hF,hS,h⟩
   rcases nk2 with _|nk2
   ·cases (show (none:Option ((List Int)×Int))=some res from h)
   obtain ⟨k2,hk2⟩:∃k,k=Fc F p0 nk2:=⟨_,rfl⟩
   replace h:Ja F p0 k2 a2 a0=some res:=by rw [hk2];exact h
   rw [Ja] at h
   refine qnB [(17,.bool (decide (a2<(ln p0))))] hF fun a hF=>?_
   refine Ak<|A8 hF h (fun hc h=>?_) fun hc h=>?_
   ·refine wK<|Ak<|wpIn_block<|esr ?_
    obtain ⟨aF,aQ,h⟩:=A0 h
    obtain ⟨aT,aJ,aO⟩:=B8 hA4.2 aQ
    obtain ⟨aB,aD,aU,aC,aE,rfl,aM,aN⟩:=aO
    refine qo 2 2 [(19,.agg (aF.ax aB aD aC aE))] hF (oI 24 (hA4.at (hS.frz (i:=1) rfl hlow)) aJ<|oG 48 0 21 (Bt 21) (fun _ hd=>(hA4.at ((hS.at_ hd).frz (i:=1) rfl hlow))) aJ<|A3) fun a hF=>?_
    refine SK.wi (qA 48 z48 (fun aH=>[(6,pb aH)]) hF hS fun aH w a hF hS=>?_)
    refine SK.wi (qw 48 0 (aF.ax aB aD aC aE) hF hS rfl fun w a hF hS=>wfn rfl ?_)
    refine esr<|qo 1 1 [(21,.agg (aF.ax aB aD aC aE))] hF (oN 48 0 0 21 hS.i rfl<|A3) fun a hF=>?_
    obtain ⟨a5,aS,h⟩:=A0 h
    refine SK.wi (qR (fun aK=>[(22,aK)]) hF (Mf F _ _ aS (Av w) w (A1 w) (aM.mono Rp87.mono (FrzAt.le_mem (hS.frz (i:=2) rfl hlow))) (aN.mono (FrzAt.le_mem (hS.frz (i:=2) rfl hlow)))) ?_)
    rintro aK w a ⟨aG,aI,rfl,hQ⟩ hF
    replace hS:=hS.madeL hQ
    refine qn 5 7 [(7,sv aG a5.1 aI),(8,iv a5.2)] hF fun a hF=>wfn rfl ?_
    refine Ak<|qnB [(26,.bool (a5.2 != 0))] hF fun a hF=>?_
    refine A8 hF h (fun hc h=>?_) fun hc h=>?_
    ·refine rnB [(2,.slice none 0 0),(3,iv a5.2)] hF fun a hF=>?_
     refine wpIn_ret (A2<|Ab<|A2<|A2<|Ab<|A2<|A9 [.tmp 2,.tmp 3] [_,_] hF rfl ⟨rfl,rfl,trivial⟩ ?_)
     obtain rfl:=Ai h
     replace hS:=hS.nilT 5 1 (fK .u8)
     exact ⟨_,rfl,_,_,rfl,St.pick [0] (by decide) hS⟩
    ·refine wK<|WI.region<|qn 2 2 [(28,sv a3 a0 a4),(29,sv aG a5.1 aI)] hF fun a hF=>?_
     obtain ⟨aA,aP,h⟩:=A0 h
     refine SK.wi (R6 (t:=22) (ty:=22) (bytes:=1) (l:=a0) (l':=a5.1) (fun a6 a7=>[(4,sv a3 a0 a4),(14,sv ad1 p0 cap2),(15,iv (ln p0)),(16,iv a2),(30,sv a6 aA a7)]) 2 hF hS rfl kr ⟨kr⟩ kr (hS.arr (i:=0) rfl) (fun _ _=>rfl) aP (fun _ _=>⟨kr⟩) fun a6 a7 w a hF hS=>?_)
     refine rn 1 4 [(4,sv a6 aA a7),(14,sv ad1 p0 cap2),(15,iv (ln p0)),(16,iv a2)] hF fun a hF=>WI.fin rfl (A7<|A4<|?_)
     refine WI.region ?_
     obtain ⟨aL,aR,h⟩:=A0 h
     refine ro 2 2 [(4,sv a6 aA a7),(14,sv ad1 p0 cap2),(15,iv (ln p0)),(16,iv aL)] hF (oA 3 aR<|A3) fun a hF=>wfn rfl ?_
     rw [hk2] at h
     exact ⟨nk2,Nat.lt_succ_self _,aL,aA,a6,a7,hF.sub kr,St.pick [2,3] (by decide) hS,h⟩
   ·refine wpIn_exit (A6<|A6<|Aq<|A4 ?_)
    exact ⟨a0,a3,a4,hF.sub kr,St.pick [0,1] (by decide) hS,h⟩
  rintro a w ⟨a1,a8,a9,hF,hS,h⟩
  rw [Jb] at h
  refine Ak<|qnB [(34,.bool (decide ((ln a1)>16777216)))] hF fun a hF=>?_
  refine A8 hF h (fun hc h=>?_) fun hc h=>?_
  ·refine rnB [(2,.slice none 0 0),(3,iv 8)] hF fun a hF=>?_
   refine wpIn_ret (A2<|A9 [.tmp 2,.tmp 3] [_,_] hF rfl ⟨rfl,rfl,trivial⟩ ?_)
   obtain rfl:=Ai h
   replace hS:=hS.nilT 5 1 (fK .u8)
   exact ⟨_,rfl,_,_,rfl,St.pick [0] (by decide) hS⟩
  ·refine wK<|rnB [(2,sv a8 a1 a9),(3,iv 0)] hF fun a hF=>?_
   refine wpIn_ret (A9 [.tmp 2,.tmp 3] [_,_] hF rfl ⟨rfl,rfl,trivial⟩ ?_)
   obtain rfl:=Ai h
   exact ⟨_,rfl,_,_,rfl,St.pick [0] (by decide) hS⟩
theorem Pm (F:Nat) (p0:ref12_Item) (res:(List Int)) (h:Ga F p0=some res) (μ:Frz) (w0:World) (hm:FrzAt μ w0) {ad1:Option Addr} {cap2:Nat} {css3:List (List Value)} {ad4:Option Addr} {cap5:Nat} (hA6:ArrQ μ 1 Rp87 ad1 cap2 css3 p0.Sweep.Rays) (hA7:ArrM μ 2 api_Span.cells ad4 cap5 p0.Field.Vals):Bd Tryz.prog 43 #[.agg (p0.ax ad1 cap2 ad4 cap5)] w0 (fun e w=>∃zad0 zcap0,e=(sv zad0 res zcap0)∧St w0 [arr 5 1 (fK .u8) zad0 res.length zcap0 res] w):=by
 obtain ⟨hlow,hS⟩:=hm.init
 have hext:=Frz.ext_refl w0.heap.size μ
 rw [Ga] at h
 refine feW Tryz.func43 15 [(0,.agg (p0.ax ad1 cap2 ad4 cap5))] hS fun a w hF hS=>?_
 refine esr<|SK.wi (qBa 49 (p0.ax ad1 cap2 ad4 cap5) (fun b8=>[(1,pb b8)]) hF hS fun b8 w a hF hS=>?_)
 refine qn 1 2 [] hF fun a hF=>wfn rfl ?_
 refine esr<|ro 1 1 [(4,.agg (p0.ax ad1 cap2 ad4 cap5))] hF (oN 49 0 0 21 hS.i rfl<|A3) fun a hF=>?_
 obtain ⟨a5,aF,h⟩:=A0 h
 refine SK.wi (rR (fun v9=>[(5,v9)]) hF (U6 F _ _ aF (Av w) w (A1 w) (hA6.mono Rp87.mono (FrzAt.le_mem (hS.frz (i:=1) rfl hlow))) (hA7.mono (FrzAt.le_mem (hS.frz (i:=1) rfl hlow)))) ?_)
 rintro v9 w a ⟨a6,a7,rfl,hQ⟩ hF
 replace hS:=hS.madeL hQ
 refine rn 1 3 [(3,sv a6 a5 a7)] hF fun a hF=>wfn rfl ?_
 refine esr<|qn 2 2 [(7,iv (ln a5))] hF fun a hF=>?_
 obtain ⟨aI,aG,h⟩:=A0 h
 refine SK.wi (qR (fun a9=>[(8,a9)]) hF (An F _ _ aG (Av w) w (A1 w)) ?_)
 rintro a9 w a ⟨aB,aC,rfl,hQ⟩ hF
 replace hS:=hS.madeL hQ
 refine qn 1 4 [(8,sv aB aI aC),(9,sv a6 a5 a7)] hF fun a hF=>?_
 obtain ⟨a2,aD,h⟩:=A0 h
 refine SK.wi (qP 22 22 0 (fun a0 a1=>[(10,sv a0 a2 a1)]) hF hS (hS.arr (i:=1) rfl) aD rfl fun a0 a1 w a hF hS=>?_)
 refine rn 1 6 [(3,sv a0 a2 a1)] hF fun a hF=>wfn rfl ?_
 refine esr<|rn 2 2 [(11,sv a0 a2 a1),(12,sv a0 a2 a1)] hF fun a hF=>?_
 obtain ⟨aL,aH,h⟩:=A0 h
 refine SK.wi (qR (fun aA=>[(13,aA)]) hF (V0 F _ _ aH (Av w) w (A1 w) (Arr.toM (hS.arr (i:=0) rfl))) ?_)
 rintro aA w a ⟨aJ,aK,rfl,hQ⟩ hF
 replace hS:=hS.madeL hQ
 obtain ⟨a8,aE,h⟩:=A0 h
 refine SK.wi (qP 22 22 1 (fun a3 a4=>[(14,sv a3 a8 a4)]) hF hS (hS.arr (i:=0) rfl) aE rfl fun a3 a4 w a hF hS=>?_)
 refine rn 1 5 [(2,sv a3 a8 a4)] hF fun a hF=>wfn rfl ?_
 refine wpIn_ret (A9 [.tmp 2] [_] hF rfl ⟨rfl,trivial⟩ ?_)
 obtain rfl:=Ai h
 exact ⟨_,rfl,_,_,rfl,St.pick [1] (by decide) hS⟩
theorem U5 (F:Nat) (p0:ref12_Item) (res:((List Int)×Int)) (h:Ha F p0=some res) (μ:Frz) (w0:World) (hm:FrzAt μ w0) {ad1:Option Addr} {cap2:Nat} {css3:List (List Value)} {ad4:Option Addr} {cap5:Nat} (hA6:ArrQ μ 1 Rp87 ad1 cap2 css3 p0.Sweep.Rays) (hA7:ArrM μ 2 api_Span.cells ad4 cap5 p0.Field.Vals):Bd Tryz.prog 17 #[.agg (p0.ax ad1 cap2 ad4 cap5)] w0 (fun e w=>∃zad0 zcap0,e=(.tuple #[sv zad0 res.1 zcap0,iv res.2])∧St w0 [arr 5 1 (fK .u8) zad0 res.1.length zcap0 res.1] w):=by
 obtain ⟨hlow,hS⟩:=hm.init
 have hext:=Frz.ext_refl w0.heap.size μ
 rw [Ha] at h
 refine feW Tryz.func17 14 [(0,.agg (p0.ax ad1 cap2 ad4 cap5))] hS fun a w hF hS=>?_
 refine esr<|SK.wi (qBa 49 (p0.ax ad1 cap2 ad4 cap5) (fun b8=>[(1,pb b8)]) hF hS fun b8 w a hF hS=>?_)
 refine qn 2 3 [] hF fun a hF=>wfn rfl ?_
 refine esr ?_
 obtain ⟨y9,hy9,h⟩:=A0 h
 refine qx 3 3 [(4,iv y9)] hF (oN 49 0 0 21 hS.e rfl<|oC (fun w2 hd=>Mc F p0 _ hy9 _ w2 (A1 w2) (hA6.mono Rp87.mono (FrzAt.le_mem ((hS.later hd).frz (i:=1) rfl hlow))) (hA7.mono (FrzAt.le_mem ((hS.later hd).frz (i:=1) rfl hlow))))<|A3) fun a w hF hx=>?_
 replace hS:=hS.later hx
 refine wfn rfl ?_
 refine Ak<|qnB [(8,.bool (y9 != 0))] hF fun a hF=>?_
 refine A8 hF h (fun hc h=>?_) fun hc h=>?_
 ·refine rnB [(2,.slice none 0 0),(3,iv y9)] hF fun a hF=>?_
  refine wpIn_ret (A2<|A9 [.tmp 2,.tmp 3] [_,_] hF rfl ⟨rfl,rfl,trivial⟩ ?_)
  obtain rfl:=Ai h
  replace hS:=hS.nilarr 5 1 (fK .u8)
  exact ⟨_,rfl,_,_,rfl,St.pick [0] (by decide) hS⟩
 ·refine wK<|esr<|SK.wi (qL 5 22 1 [0] (fun a2=>[(10,sb a2 1)]) (Bs .u8) hF hS fun a2 w a hF hS=>?_)
  refine qo 1 2 [(11,.agg (p0.ax ad1 cap2 ad4 cap5))] hF (oN 49 1 0 21 hS.i rfl<|A3) fun a hF=>?_
  obtain ⟨a9,a6,h⟩:=A0 h
  refine SK.wi (qR (fun a4=>[(12,a4)]) hF (Pm F _ _ a6 (Av w) w (A1 w) (hA6.mono Rp87.mono (FrzAt.le_mem (hS.frz (i:=2) rfl hlow))) (hA7.mono (FrzAt.le_mem (hS.frz (i:=2) rfl hlow)))) ?_)
  rintro a4 w a ⟨a7,a8,rfl,hQ⟩ hF
  replace hS:=hS.madeL hQ
  obtain ⟨a3,a5,h⟩:=A0 h
  refine SK.wi (qP 22 22 1 (fun a0 a1=>[(13,sv a0 a3 a1)]) hF hS (hS.arr (i:=0) rfl) a5 rfl fun a0 a1 w a hF hS=>?_)
  refine rn 2 6 [(2,sv a0 a3 a1),(3,iv 0)] hF fun a hF=>wfn rfl ?_
  refine wpIn_ret (A9 [.tmp 2,.tmp 3] [_,_] hF rfl ⟨rfl,rfl,trivial⟩ ?_)
  obtain rfl:=Ai h
  exact ⟨_,rfl,_,_,rfl,St.pick [1] (by decide) hS⟩
theorem Sm (F:Nat) (p0:volume_Item) (res:Int) (h:K7 F p0=some res) (μ:Frz) (w0:World) (hm:FrzAt μ w0) {ad1:Option Addr} {cap2:Nat} {css3:List (List Value)} {ad4:Option Addr} {cap5:Nat} (hA6:ArrQ μ 1 Rp87 ad1 cap2 css3 p0.Sweep.Rays) (hA7:ArrM μ 2 api_Span.cells ad4 cap5 p0.Field.Vals):Calls Tryz.prog 19 #[.agg (p0.ax ad1 cap2 ad4 cap5)] w0 (fun e w=>e=.returned (iv res)∧Ext w0 w):=by
 obtain ⟨hlow,hS⟩:=hm.init
 have hext:=Frz.ext_refl w0.heap.size μ
 rw [K7] at h
 refine feW Tryz.func19 11 [(0,.agg (p0.ax ad1 cap2 ad4 cap5))] hS fun a w hF hS=>?_
 refine esr<|SK.wi (qBa 48 (p0.ax ad1 cap2 ad4 cap5) (fun b8=>[(1,pb b8)]) hF hS fun b8 w a hF hS=>?_)
 refine qn 1 2 [] hF fun a hF=>wfn rfl ?_
 refine esr<|ro 1 1 [(6,.agg (p0.ax ad1 cap2 ad4 cap5))] hF (oN 48 0 0 21 hS.i rfl<|A3) fun a hF=>?_
 obtain ⟨a1,a2,h⟩:=A0 h
 refine SK.wi (rR (fun v9=>[(7,v9)]) hF (Mu F _ _ a2 μ w (hS.frz (i:=1) rfl hlow) hA6 hA7) ?_)
 rintro v9 w a ⟨ν11,a4,a0,rfl,a3,hQ⟩ hF
 replace hext:=hext.t (Frz.ext_mono a0 hS.ext.size)
 obtain ⟨hlow,hS⟩:=hS.frzMerge (i:=1) rfl hlow a0 hQ
 replace hA6:=hA6.mono Rp87.mono a0.1
 replace hA7:=hA7.mono a0.1
 refine rn 5 7 [(4,iv a1.2)] hF fun a hF=>wfn rfl ?_
 refine rnB [(2,iv a1.2)] hF fun a hF=>?_
 refine wpIn_ret (A9 [.tmp 2] [_] hF rfl ⟨rfl,trivial⟩ ?_)
 obtain rfl:=Ai h
 exact ⟨rfl,hS.ext⟩
theorem U8 (F:Nat) (p0:(List ref12_Item)) (res:(List Int)) (h:Nt F p0=some res) (μ:Frz) (w0:World) (hm:FrzAt μ w0) {ad1:Option Addr} {cap2:Nat} {css3:List (List Value)} (hA4:ArrQ μ 21 Rp49 ad1 cap2 css3 p0):Bd Tryz.prog 50 #[sv ad1 p0 cap2] w0 (fun e w=>∃zad0 zcap0,e=(sv zad0 res zcap0)∧St w0 [arrT 5 1 (fK .u8) zad0 res.length zcap0 res] w):=by
 obtain ⟨hlow,hS⟩:=hm.init
 have hext:=Frz.ext_refl w0.heap.size μ
 rw [Nt] at h
 refine feW Tryz.func50 23 [(0,sv ad1 p0 cap2)] hS fun a w hF hS=>?_
 refine qnB [] hF fun a hF=>?_
 refine esr<|SK.wi (qL 5 22 4 [82,86,70,49] (fun b5=>[(5,sb b5 4)]) (Bs .u8) hF hS fun b5 w a hF hS=>?_)
 replace hS:St w0 [arrT 5 1 (fK .u8) (some ⟨b5,0,none⟩) ([82,86,70,49]).length 4 ([82,86,70,49]),fz w0 μ] w:=St.toT hS
 refine SK.wi (Pa (src:=22) [(0,sv ad1 p0 cap2),(6,sb b5 4)] 0 hF hS rfl (by decide) kr ⟨kr⟩ kr ⟨kr⟩ fun w a hF hS=>?_)
 refine rn 1 3 [(0,sv ad1 p0 cap2),(3,sb b5 4)] hF fun a hF=>wfn rfl ?_
 refine D4 (fun a w=>∃(a4:(List Int)) (a7:Option Addr) (a8:Nat),Fr 23 [] [(3,sv a7 a4 a8)] a∧St w0 [arrT 5 1 (fK .u8) a7 a4.length a8 a4,fz w0 μ] w∧L3 a4=some res) ?_ ?_
 ·skip
  refine qnB [(4,iv 0)] hF fun a hF=>?_
  refine wpIn_block<|Cc (fun n_ a w=>∃(a0:(List Int)) (a1:Int) (a2:Option Addr) (a3:Nat),Fr 23 [] [(0,sv ad1 p0 cap2),(3,sv a2 a0 a3),(4,iv a1)] a∧St w0 [arrT 5 1 (fK .u8) a2 a0.length a3 a0,fz w0 μ] w∧Fs F p0 n_ a0 a1=some res) F ⟨[82,86,70,49],0,(some ⟨b5,0,none⟩),4,hF.sub kr,St.pick [0,1] (by decide) hS,h⟩ ?_
  rintro nk2 a w ⟨a0,a1,a2,a3,hF,hS,h⟩
  rcases nk2 with _|nk2
  ·cases (show (none:Option (List Int))=some res from h)
  obtain ⟨k2,hk2⟩:∃k,k=Fs F p0 nk2:=⟨_,rfl⟩
  replace h:L2 F p0 k2 a0 a1=some res:=by rw [hk2];exact h
  rw [L2] at h
  refine Ak<|qnB [(10,.bool (decide (a1<(ln p0))))] hF fun a hF=>?_
  refine A8 hF h (fun hc h=>?_) fun hc h=>?_
  ·refine wK<|Ak<|wpIn_block ?_
   obtain ⟨aJ,aR,h⟩:=A0 h
   obtain ⟨aC,aP,h⟩:=A0 h
   refine Bm 7 [1,2] _ (D:=fun w=>St w0 [] w∧FrzAt μ w) kr kr hF.size (fun w hx=>?_) (fun _ _ h=>h)
   replace hS:=hS.later hx
   refine ⟨⟨St.pick [] (by decide) hS,hS.frz (i:=1) rfl hlow⟩,?_⟩
   have aZ:=Frz.le_refl μ
   obtain ⟨aX,aI,aO⟩:=B8 hA4.2 aR
   obtain ⟨aD,aG,aY,aE,aH,rfl,aM,aN⟩:=aO
   refine WT.s [0,3,4,5,6] [1] kr kr ?_
   refine qC 5 [(13,sv a2 a0 a3),(19,.agg (aJ.ax aD aG aE aH))] hF (oI 28 (hA4.at (hS.frz (i:=1) rfl hlow)) aI<|oG 49 0 21 (Bt 21) (fun _ hd=>(hA4.at hd.2)) aI<|A3) fun a hF=>?_
   refine WRun.fin ?_
   refine all_cons ?_ (Am)
   refine qL 5 22 1 [0] (fun aF=>[(14,sb aF 1)]) (Bs .u8) hF hS fun aF w a hF hS=>⟨⟨St.pick [] (by decide) hS,(hS.frz (i:=2) rfl hlow)⟩,?_⟩
   refine WT.s [] [2] kr kr ?_
   refine WRun.fin ?_
   refine all_cons ?_ (Am)
   refine R6 (t:=22) (ty:=22) (bytes:=1) (l:=a0) (l':=([0])) (fun aA aB=>[(0,sv ad1 p0 cap2),(3,sv a2 a0 a3),(4,iv a1),(15,sv aA aC aB),(19,.agg (aJ.ax aD aG aE aH))]) 1 hF hS rfl kr ⟨kr⟩ kr (hS.arr (i:=0) rfl) (fun _ _=>rfl) aP (fun _ _=>⟨kr⟩) fun aA aB w a hF hS=>⟨⟨St.pick [] (by decide) hS,(hS.frz (i:=2) rfl hlow)⟩,?_⟩
   refine WT.z [] kr ?_
   refine WRun.fin ?_
   obtain ⟨aU,aT,h⟩:=A0 h
   refine SK.wi (rR (fun aK=>[(0,sv ad1 p0 cap2),(3,sv a2 a0 a3),(4,iv a1),(15,sv aA aC aB),(20,aK)]) hF (Pm F _ _ aT (Av w) w (A1 w) (aM.mono Rp87.mono (FrzAt.le_mem (hS.frz (i:=2) rfl hlow))) (aN.mono (FrzAt.le_mem (hS.frz (i:=2) rfl hlow)))) ?_)
   rintro aK w a ⟨aV,aW,rfl,hQ⟩ hF
   replace hS:=hS.madeL hQ
   obtain ⟨a9,aQ,h⟩:=A0 h
   refine SK.wi (R6 (t:=22) (ty:=22) (bytes:=1) (l:=aC) (l':=aU) (fun a5 a6=>[(0,sv ad1 p0 cap2),(3,sv a2 a0 a3),(4,iv a1),(21,sv a5 a9 a6)]) 2 hF hS rfl kr ⟨kr⟩ kr (hS.arr (i:=0) rfl) (fun _ _=>rfl) aQ (fun _ _=>⟨kr⟩) fun a5 a6 w a hF hS=>?_)
   refine rn 1 10 [(0,sv ad1 p0 cap2),(3,sv a5 a9 a6),(4,iv a1)] hF fun a hF=>WI.fin rfl (A7<|A4<|?_)
   refine WI.region ?_
   obtain ⟨aL,aS,h⟩:=A0 h
   refine ro 3 3 [(0,sv ad1 p0 cap2),(3,sv a5 a9 a6),(4,iv aL)] hF (oA 3 aS<|A3) fun a hF=>wfn rfl ?_
   rw [hk2] at h
   exact ⟨nk2,Nat.lt_succ_self _,a9,aL,a5,a6,hF.sub kr,St.pick [2,3] (by decide) hS,h⟩
  ·refine wpIn_exit (A6<|A6<|Aq<|A4 ?_)
   exact ⟨a0,a2,a3,hF.sub kr,St.pick [0,1] (by decide) hS,h⟩
 rintro a w ⟨a4,a7,a8,hF,hS,h⟩
 rw [L3] at h
 refine rnB [(2,sv a7 a4 a8)] hF fun a hF=>?_
 refine wpIn_ret (A9 [.tmp 2] [_] hF rfl ⟨rfl,trivial⟩ ?_)
 obtain rfl:=Ai h
 exact ⟨_,rfl,_,_,rfl,St.pick [0] (by decide) hS⟩
end Go.Proofs.YtifbomimeodibaaGreat
