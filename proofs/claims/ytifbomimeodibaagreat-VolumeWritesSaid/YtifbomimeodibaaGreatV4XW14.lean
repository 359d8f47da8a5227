import Derived.Test.YtifbomimeodibaaGreatV4XD
import Derived.Test.YtifbomimeodibaaGreatProg
import Derived.Test.YtifbomimeodibaaGreatV4XW1
import Derived.Test.YtifbomimeodibaaGreatV4XW8
import Derived.Test.YtifbomimeodibaaGreatV4XW11
import Derived.Test.YtifbomimeodibaaGreatV4XW12
import Derived.Test.YtifbomimeodibaaGreatV4XW13
namespace Go.Proofs.YtifbomimeodibaaGreat
open Go Go.RowKit Go.Eng
set_option maxRecDepth 10000
set_option maxHeartbeats 4000000
set_option linter.unusedVariables false
set_option linter.unusedSimpArgs false
theorem Pb (F:Nat) (p0:(List volume_Item)) (res:((List Int)×Int)) (h:Ez F p0=some res) (μ:Frz) (w0:World) (hm:FrzAt μ w0) {ad1:Option Addr} {cap2:Nat} {css3:List (List Value)} (hA4:ArrQ μ 21 Rp48 ad1 cap2 css3 p0):Bj Tryz.prog 21 #[sv ad1 p0 cap2] w0 (fun e w=>∃zad0 zcap0,e=(.tuple #[sv zad0 res.1 zcap0,iv res.2])∧St w0 [arrT 5 1 (fK .u8) zad0 res.1.length zcap0 res.1] w):=by
 obtain ⟨hlow,hS⟩:=hm.init
 have hext:=Frz.ext_refl w0.heap.size μ
 rw [Ez] at h
 refine Ag Tryz.func21 rfl 36 [(0,sv ad1 p0 cap2)] rfl rfl kr fun a w hw hF=>?_
 replace hS:=hS.cast hw
 clear hw
 refine qnB [] hF fun a hF=>?_
 refine Ar ?_
 refine qnB [(11,.bool (decide ((ln p0)>1000)))] hF fun a hF=>?_
 refine Aj hF rfl (fun hc=>?_) (fun hc=>?_)
 ·replace h:=Af h hc
  refine rnB [(2,.slice none 0 0),(3,iv 9)] hF fun a hF=>?_
  refine wpIn_ret (A6<|Ad [.tmp 2,.tmp 3] [.slice none 0 0,iv 9] hF rfl ⟨rfl,rfl,trivial⟩ ?_)
  obtain rfl:=Ao h
  replace hS:=hS.nilT 5 1 (fK .u8)
  exact ⟨_,rfl,_,_,rfl,St.pick [0] (by decide) hS⟩
 ·replace h:=Ae h hc
  refine wpIn_skip (A0 ?_)
  refine esr ?_
  refine SK.wi (Fe (e:=5) (sz:=1) (f:=(fK .u8)) (t:=22) (len:=4) (fun b5=>[(0,sv ad1 p0 cap2),(12,sb b5 4)]) #[(0,.int .u8 82),(1,.int .u8 86),(2,.int .u8 70),(3,.int .u8 49)] #[.int .u8 82,.int .u8 86,.int .u8 70,.int .u8 49] ([82,86,70,49]) hF hS kr ⟨kr⟩ kr (Bx .u8) rfl rfl kr (fun _=>⟨kr⟩) fun b5 w a hF hS=>?_)
  replace hS:St w0 [arrT 5 1 (fK .u8) (some ⟨b5,0,none⟩) ([82,86,70,49]).length 4 ([82,86,70,49]),fz w0 μ] w:=St.toT hS
  refine SK.wi (Pj (src:=22) [(0,sv ad1 p0 cap2),(13,sb b5 4)] 0 hF hS rfl (by decide) kr ⟨kr⟩ kr ⟨kr⟩ fun w a hF hS=>?_)
  refine rn 1 3 [(0,sv ad1 p0 cap2),(4,sb b5 4)] hF fun a hF=>?_
  refine wfn rfl ?_
  refine D9 (fun a w=>∃(a2:(List Int)) (a8:Option Addr) (aA:Nat),Fr 36 [] [(4,sv a8 a2 aA)] a∧St w0 [arrT 5 1 (fK .u8) a8 a2.length aA a2,fz w0 μ] w∧Jk a2=some res) ?_ ?_
  ·skip
   refine qnB [(14,sv ad1 p0 cap2),(15,iv (ln p0)),(16,iv 0)] hF fun a hF=>?_
   refine wpIn_block ?_
   refine Ci (fun n_ a w=>∃(a3:Int) (a1:(List Int)) (a5:Option Addr) (a6:Nat),Fr 36 [] [(4,sv a5 a1 a6),(14,sv ad1 p0 cap2),(15,iv (ln p0)),(16,iv a3)] a∧St w0 [arrT 5 1 (fK .u8) a5 a1.length a6 a1,fz w0 μ] w∧Fk F p0 n_ a3 a1=some res) F ⟨0,[82,86,70,49],(some ⟨b5,0,none⟩),4,hF.sub kr,St.pick [0,1] (by decide) hS,h⟩ ?_
   rintro nk2 a w ⟨a3,a1,a5,a6,hF,hS,h⟩
   rcases nk2 with _|nk2
   ·cases (show (none:Option ((List Int)×Int))=some res from h)
   obtain ⟨k2,hk2⟩:∃k,k=Fk F p0 nk2:=⟨_,rfl⟩
   replace h:Jj F p0 k2 a3 a1=some res:=by rw [hk2];exact h
   rw [Jj] at h
   refine qnB [(17,.bool (decide (a3<(ln p0))))] hF fun a hF=>?_
   refine Ar ?_
   refine Aj hF rfl (fun hc=>?_) (fun hc=>?_)
   ·replace h:=Af h hc
    refine wpIn_skip (A0 ?_)
    refine Ar ?_
    refine wpIn_block ?_
    refine esr ?_
    obtain ⟨a0,aQ,h⟩:=A1 h
    obtain ⟨aT,aJ,aO⟩:=Bd hA4.2 aQ
    obtain ⟨aB,aD,aU,aC,aE,rfl,aM,aN⟩:=aO
    refine qo 2 2 [(19,.agg #[iv a0.Kind,.string a0.Name,iv a0.Time,.string a0.Sweep.Site.Name,iv a0.Sweep.Site.X,iv a0.Sweep.Site.Y,iv a0.Sweep.Site.Z,iv a0.Sweep.Site.Rose,iv a0.Sweep.Site.Gates,iv a0.Sweep.Site.Step,iv a0.Sweep.Site.Width,iv a0.Sweep.Tilt,iv a0.Sweep.Time,sv aB a0.Sweep.Rays aD,iv a0.Field.Grid.X,iv a0.Field.Grid.Y,iv a0.Field.Grid.Size,iv a0.Field.Grid.Wide,iv a0.Field.Grid.High,sv aC a0.Field.Vals aE,.string a0.Text])] hF (oI 24 (hA4.at (hS.frz (i:=1) rfl hlow)) aJ<|oG 48 0 21 (Bz 21) (fun _ hd=>(hA4.at ((hS.at_ hd).frz (i:=1) rfl hlow))) aJ<|A9) fun a hF=>?_
    refine SK.wi (qA 48 #[iv 0,.string ByteArray.empty,iv 0,.string ByteArray.empty,iv 0,iv 0,iv 0,iv 0,iv 0,iv 0,iv 0,iv 0,iv 0,.slice none 0 0,iv 0,iv 0,iv 0,iv 0,iv 0,.slice none 0 0,.string ByteArray.empty] (fun aH=>[(6,pb aH)]) hF hS fun aH w a hF hS=>?_)
    refine SK.wi (qS 48 0 0 (.agg #[iv a0.Kind,.string a0.Name,iv a0.Time,.string a0.Sweep.Site.Name,iv a0.Sweep.Site.X,iv a0.Sweep.Site.Y,iv a0.Sweep.Site.Z,iv a0.Sweep.Site.Rose,iv a0.Sweep.Site.Gates,iv a0.Sweep.Site.Step,iv a0.Sweep.Site.Width,iv a0.Sweep.Tilt,iv a0.Sweep.Time,sv aB a0.Sweep.Rays aD,iv a0.Field.Grid.X,iv a0.Field.Grid.Y,iv a0.Field.Grid.Size,iv a0.Field.Grid.Wide,iv a0.Field.Grid.High,sv aC a0.Field.Vals aE,.string a0.Text]) #[iv a0.Kind,.string a0.Name,iv a0.Time,.string a0.Sweep.Site.Name,iv a0.Sweep.Site.X,iv a0.Sweep.Site.Y,iv a0.Sweep.Site.Z,iv a0.Sweep.Site.Rose,iv a0.Sweep.Site.Gates,iv a0.Sweep.Site.Step,iv a0.Sweep.Site.Width,iv a0.Sweep.Tilt,iv a0.Sweep.Time,sv aB a0.Sweep.Rays aD,iv a0.Field.Grid.X,iv a0.Field.Grid.Y,iv a0.Field.Grid.Size,iv a0.Field.Grid.Wide,iv a0.Field.Grid.High,sv aC a0.Field.Vals aE,.string a0.Text] hF hS rfl fun w a hF hS=>?_)
    refine wfn rfl ?_
    refine esr ?_
    refine qo 1 1 [(21,.agg #[iv a0.Kind,.string a0.Name,iv a0.Time,.string a0.Sweep.Site.Name,iv a0.Sweep.Site.X,iv a0.Sweep.Site.Y,iv a0.Sweep.Site.Z,iv a0.Sweep.Site.Rose,iv a0.Sweep.Site.Gates,iv a0.Sweep.Site.Step,iv a0.Sweep.Site.Width,iv a0.Sweep.Tilt,iv a0.Sweep.Time,sv aB a0.Sweep.Rays aD,iv a0.Field.Grid.X,iv a0.Field.Grid.Y,iv a0.Field.Grid.Size,iv a0.Field.Grid.Wide,iv a0.Field.Grid.High,sv aC a0.Field.Vals aE,.string a0.Text])] hF (oN 48 0 0 21 hS.i rfl<|A9) fun a hF=>?_
    obtain ⟨a4,aS,h⟩:=A1 h
    refine SK.wi (qR (fun aK=>[(22,aK)]) hF (Mn F _ _ aS (Ay w) w (A5 w) (aM.mono Rp87.mono (FrzAt.le_mem (hS.frz (i:=2) rfl hlow))) (aN.mono (FrzAt.le_mem (hS.frz (i:=2) rfl hlow)))) ?_)
    rintro aK w a ⟨aG,aI,rfl,hQ⟩ hF
    replace hS:=hS.madeL hQ
    refine qn 5 7 [(7,sv aG a4.1 aI),(8,iv a4.2)] hF fun a hF=>?_
    refine wfn rfl ?_
    refine Ar ?_
    refine qnB [(26,.bool (a4.2 != 0))] hF fun a hF=>?_
    refine Aj hF rfl (fun hc=>?_) (fun hc=>?_)
    ·replace h:=Af h hc
     refine rnB [(2,.slice none 0 0),(3,iv a4.2)] hF fun a hF=>?_
     refine wpIn_ret (A6<|Ai<|A6<|A6<|Ai<|A6<|Ad [.tmp 2,.tmp 3] [.slice none 0 0,iv a4.2] hF rfl ⟨rfl,rfl,trivial⟩ ?_)
     obtain rfl:=Ao h
     replace hS:=hS.nilT 5 1 (fK .u8)
     exact ⟨_,rfl,_,_,rfl,St.pick [0] (by decide) hS⟩
    ·replace h:=Ae h hc
     refine wpIn_skip (A0 ?_)
     refine WI.region ?_
     refine qn 2 2 [(28,sv a5 a1 a6),(29,sv aG a4.1 aI)] hF fun a hF=>?_
     obtain ⟨aF,aP,h⟩:=A1 h
     refine SK.wi (Ri (t:=22) (ty:=22) (bytes:=1) (l:=a1) (l':=a4.1) (fun a7 a9=>[(4,sv a5 a1 a6),(14,sv ad1 p0 cap2),(15,iv (ln p0)),(16,iv a3),(30,sv a7 aF a9)]) 2 hF hS rfl kr ⟨kr⟩ kr (hS.arr (i:=0) rfl) (fun _ _=>rfl) aP (fun _ _=>⟨kr⟩) fun a7 a9 w a hF hS=>?_)
     refine rn 1 4 [(4,sv a7 aF a9),(14,sv ad1 p0 cap2),(15,iv (ln p0)),(16,iv a3)] hF fun a hF=>?_
     refine WI.fin rfl (Ab<|A0<|?_)
     refine WI.region ?_
     obtain ⟨aL,aR,h⟩:=A1 h
     refine ro 2 2 [(4,sv a7 aF a9),(14,sv ad1 p0 cap2),(15,iv (ln p0)),(16,iv aL)] hF (oA 3 aR<|A9) fun a hF=>?_
     refine wfn rfl ?_
     rw [hk2] at h
     exact ⟨nk2,Nat.lt_succ_self _,aL,aF,a7,a9,hF.sub kr,St.pick [2,3] (by decide) hS,h⟩
   ·replace h:=Ae h hc
    refine wpIn_exit (Aa<|Aa<|Av<|A0 ?_)
    exact ⟨a1,a5,a6,hF.sub kr,St.pick [0,1] (by decide) hS,h⟩
  rintro a w ⟨a2,a8,aA,hF,hS,h⟩
  rw [Jk] at h
  refine Ar ?_
  refine qnB [(34,.bool (decide ((ln a2)>16777216)))] hF fun a hF=>?_
  refine Aj hF rfl (fun hc=>?_) (fun hc=>?_)
  ·replace h:=Af h hc
   refine rnB [(2,.slice none 0 0),(3,iv 8)] hF fun a hF=>?_
   refine wpIn_ret (A6<|Ad [.tmp 2,.tmp 3] [.slice none 0 0,iv 8] hF rfl ⟨rfl,rfl,trivial⟩ ?_)
   obtain rfl:=Ao h
   replace hS:=hS.nilT 5 1 (fK .u8)
   exact ⟨_,rfl,_,_,rfl,St.pick [0] (by decide) hS⟩
  ·replace h:=Ae h hc
   refine wpIn_skip (A0 ?_)
   refine rnB [(2,sv a8 a2 aA),(3,iv 0)] hF fun a hF=>?_
   refine wpIn_ret (Ad [.tmp 2,.tmp 3] [sv a8 a2 aA,iv 0] hF rfl ⟨rfl,rfl,trivial⟩ ?_)
   obtain rfl:=Ao h
   exact ⟨_,rfl,_,_,rfl,St.pick [0] (by decide) hS⟩
theorem Pw (F:Nat) (p0:ref12_Item) (res:(List Int)) (h:Gh F p0=some res) (μ:Frz) (w0:World) (hm:FrzAt μ w0) {ad1:Option Addr} {cap2:Nat} {css3:List (List Value)} {ad4:Option Addr} {cap5:Nat} (hA6:ArrQ μ 1 Rp87 ad1 cap2 css3 p0.Sweep.Rays) (hA7:ArrM μ 2 api_Span.cells ad4 cap5 p0.Field.Vals):Bj Tryz.prog 43 #[.agg #[iv p0.Kind,.string p0.Name,iv p0.Time,.string p0.Sweep.Site.Name,iv p0.Sweep.Site.X,iv p0.Sweep.Site.Y,iv p0.Sweep.Site.Z,iv p0.Sweep.Site.Rose,iv p0.Sweep.Site.Gates,iv p0.Sweep.Site.Step,iv p0.Sweep.Site.Width,iv p0.Sweep.Tilt,iv p0.Sweep.Time,sv ad1 p0.Sweep.Rays cap2,iv p0.Field.Grid.X,iv p0.Field.Grid.Y,iv p0.Field.Grid.Size,iv p0.Field.Grid.Wide,iv p0.Field.Grid.High,sv ad4 p0.Field.Vals cap5,.string p0.Text]] w0 (fun e w=>∃zad0 zcap0,e=(sv zad0 res zcap0)∧St w0 [arr 5 1 (fK .u8) zad0 res.length zcap0 res] w):=by
 obtain ⟨hlow,hS⟩:=hm.init
 have hext:=Frz.ext_refl w0.heap.size μ
 rw [Gh] at h
 refine Ag Tryz.func43 rfl 15 [(0,.agg #[iv p0.Kind,.string p0.Name,iv p0.Time,.string p0.Sweep.Site.Name,iv p0.Sweep.Site.X,iv p0.Sweep.Site.Y,iv p0.Sweep.Site.Z,iv p0.Sweep.Site.Rose,iv p0.Sweep.Site.Gates,iv p0.Sweep.Site.Step,iv p0.Sweep.Site.Width,iv p0.Sweep.Tilt,iv p0.Sweep.Time,sv ad1 p0.Sweep.Rays cap2,iv p0.Field.Grid.X,iv p0.Field.Grid.Y,iv p0.Field.Grid.Size,iv p0.Field.Grid.Wide,iv p0.Field.Grid.High,sv ad4 p0.Field.Vals cap5,.string p0.Text])] rfl rfl kr fun a w hw hF=>?_
 replace hS:=hS.cast hw
 clear hw
 refine esr ?_
 refine SK.wi (J6 (t:=49) (fun b8=>[(1,pb b8)]) (.agg #[iv p0.Kind,.string p0.Name,iv p0.Time,.string p0.Sweep.Site.Name,iv p0.Sweep.Site.X,iv p0.Sweep.Site.Y,iv p0.Sweep.Site.Z,iv p0.Sweep.Site.Rose,iv p0.Sweep.Site.Gates,iv p0.Sweep.Site.Step,iv p0.Sweep.Site.Width,iv p0.Sweep.Tilt,iv p0.Sweep.Time,sv ad1 p0.Sweep.Rays cap2,iv p0.Field.Grid.X,iv p0.Field.Grid.Y,iv p0.Field.Grid.Size,iv p0.Field.Grid.Wide,iv p0.Field.Grid.High,sv ad4 p0.Field.Vals cap5,.string p0.Text]) #[iv p0.Kind,.string p0.Name,iv p0.Time,.string p0.Sweep.Site.Name,iv p0.Sweep.Site.X,iv p0.Sweep.Site.Y,iv p0.Sweep.Site.Z,iv p0.Sweep.Site.Rose,iv p0.Sweep.Site.Gates,iv p0.Sweep.Site.Step,iv p0.Sweep.Site.Width,iv p0.Sweep.Tilt,iv p0.Sweep.Time,sv ad1 p0.Sweep.Rays cap2,iv p0.Field.Grid.X,iv p0.Field.Grid.Y,iv p0.Field.Grid.Size,iv p0.Field.Grid.Wide,iv p0.Field.Grid.High,sv ad4 p0.Field.Vals cap5,.string p0.Text] hF hS kr ⟨kr⟩ kr (fun _=>⟨kr⟩) fun b8 w a hF hS=>?_)
 refine rn 1 2 [(1,pb b8)] hF fun a hF=>?_
 refine wfn rfl ?_
 refine esr ?_
 refine ro 1 1 [(4,.agg #[iv p0.Kind,.string p0.Name,iv p0.Time,.string p0.Sweep.Site.Name,iv p0.Sweep.Site.X,iv p0.Sweep.Site.Y,iv p0.Sweep.Site.Z,iv p0.Sweep.Site.Rose,iv p0.Sweep.Site.Gates,iv p0.Sweep.Site.Step,iv p0.Sweep.Site.Width,iv p0.Sweep.Tilt,iv p0.Sweep.Time,sv ad1 p0.Sweep.Rays cap2,iv p0.Field.Grid.X,iv p0.Field.Grid.Y,iv p0.Field.Grid.Size,iv p0.Field.Grid.Wide,iv p0.Field.Grid.High,sv ad4 p0.Field.Vals cap5,.string p0.Text])] hF (oN 49 0 0 21 hS.i rfl<|A9) fun a hF=>?_
 obtain ⟨a3,aG,h⟩:=A1 h
 refine SK.wi (rR (fun v9=>[(5,v9)]) hF (Ue F _ _ aG (Ay w) w (A5 w) (hA6.mono Rp87.mono (FrzAt.le_mem (hS.frz (i:=1) rfl hlow))) (hA7.mono (FrzAt.le_mem (hS.frz (i:=1) rfl hlow)))) ?_)
 rintro v9 w a ⟨a6,a7,rfl,hQ⟩ hF
 replace hS:=hS.madeL hQ
 refine rn 1 3 [(3,sv a6 a3 a7)] hF fun a hF=>?_
 refine wfn rfl ?_
 refine esr ?_
 refine qn 2 2 [(7,iv (ln a3))] hF fun a hF=>?_
 obtain ⟨aB,aH,h⟩:=A1 h
 refine SK.wi (qR (fun a9=>[(8,a9)]) hF (Au F _ _ aH (Ay w) w (A5 w)) ?_)
 rintro a9 w a ⟨aC,aD,rfl,hQ⟩ hF
 replace hS:=hS.madeL hQ
 refine qn 1 4 [(8,sv aC aB aD),(9,sv a6 a3 a7)] hF fun a hF=>?_
 obtain ⟨a2,aE,h⟩:=A1 h
 refine SK.wi (Lq (t:=22) (ty:=22) (bytes:=1) (l:=aB) (l':=a3) (fun a0 a1=>[(3,sv a6 a3 a7),(10,sv a0 a2 a1)]) 0 hF hS rfl kr ⟨kr⟩ kr (hS.arr (i:=1) rfl) (fun _ _=>rfl) aE (fun _ _=>⟨kr⟩) fun a0 a1 w a hF hS=>?_)
 refine rn 1 6 [(3,sv a0 a2 a1)] hF fun a hF=>?_
 refine wfn rfl ?_
 refine esr ?_
 refine rn 2 2 [(11,sv a0 a2 a1),(12,sv a0 a2 a1)] hF fun a hF=>?_
 obtain ⟨aJ,aI,h⟩:=A1 h
 refine SK.wi (qR (fun aA=>[(13,aA)]) hF (V9 F _ _ aI (Ay w) w (A5 w) (Arr.toM (hS.arr (i:=0) rfl))) ?_)
 rintro aA w a ⟨aK,aL,rfl,hQ⟩ hF
 replace hS:=hS.madeL hQ
 obtain ⟨a8,aF,h⟩:=A1 h
 refine SK.wi (Lq (t:=22) (ty:=22) (bytes:=1) (l:=a2) (l':=aJ) (fun a4 a5=>[(14,sv a4 a8 a5)]) 1 hF hS rfl kr ⟨kr⟩ kr (hS.arr (i:=0) rfl) (fun _ _=>rfl) aF (fun _ _=>⟨kr⟩) fun a4 a5 w a hF hS=>?_)
 refine rn 1 5 [(2,sv a4 a8 a5)] hF fun a hF=>?_
 refine wfn rfl ?_
 refine wpIn_ret (Ad [.tmp 2] [sv a4 a8 a5] hF rfl ⟨rfl,trivial⟩ ?_)
 obtain rfl:=Ao h
 exact ⟨_,rfl,_,_,rfl,St.pick [1] (by decide) hS⟩
theorem Ud (F:Nat) (p0:ref12_Item) (res:((List Int)×Int)) (h:Hh F p0=some res) (μ:Frz) (w0:World) (hm:FrzAt μ w0) {ad1:Option Addr} {cap2:Nat} {css3:List (List Value)} {ad4:Option Addr} {cap5:Nat} (hA6:ArrQ μ 1 Rp87 ad1 cap2 css3 p0.Sweep.Rays) (hA7:ArrM μ 2 api_Span.cells ad4 cap5 p0.Field.Vals):Bj Tryz.prog 17 #[.agg #[iv p0.Kind,.string p0.Name,iv p0.Time,.string p0.Sweep.Site.Name,iv p0.Sweep.Site.X,iv p0.Sweep.Site.Y,iv p0.Sweep.Site.Z,iv p0.Sweep.Site.Rose,iv p0.Sweep.Site.Gates,iv p0.Sweep.Site.Step,iv p0.Sweep.Site.Width,iv p0.Sweep.Tilt,iv p0.Sweep.Time,sv ad1 p0.Sweep.Rays cap2,iv p0.Field.Grid.X,iv p0.Field.Grid.Y,iv p0.Field.Grid.Size,iv p0.Field.Grid.Wide,iv p0.Field.Grid.High,sv ad4 p0.Field.Vals cap5,.string p0.Text]] w0 (fun e w=>∃zad0 zcap0,e=(.tuple #[sv zad0 res.1 zcap0,iv res.2])∧St w0 [arr 5 1 (fK .u8) zad0 res.1.length zcap0 res.1] w):=by
 obtain ⟨hlow,hS⟩:=hm.init
 have hext:=Frz.ext_refl w0.heap.size μ
 rw [Hh] at h
 refine Ag Tryz.func17 rfl 14 [(0,.agg #[iv p0.Kind,.string p0.Name,iv p0.Time,.string p0.Sweep.Site.Name,iv p0.Sweep.Site.X,iv p0.Sweep.Site.Y,iv p0.Sweep.Site.Z,iv p0.Sweep.Site.Rose,iv p0.Sweep.Site.Gates,iv p0.Sweep.Site.Step,iv p0.Sweep.Site.Width,iv p0.Sweep.Tilt,iv p0.Sweep.Time,sv ad1 p0.Sweep.Rays cap2,iv p0.Field.Grid.X,iv p0.Field.Grid.Y,iv p0.Field.Grid.Size,iv p0.Field.Grid.Wide,iv p0.Field.Grid.High,sv ad4 p0.Field.Vals cap5,.string p0.Text])] rfl rfl kr fun a w hw hF=>?_
 replace hS:=hS.cast hw
 clear hw
 refine esr ?_
 refine SK.wi (J6 (t:=49) (fun b8=>[(1,pb b8)]) (.agg #[iv p0.Kind,.string p0.Name,iv p0.Time,.string p0.Sweep.Site.Name,iv p0.Sweep.Site.X,iv p0.Sweep.Site.Y,iv p0.Sweep.Site.Z,iv p0.Sweep.Site.Rose,iv p0.Sweep.Site.Gates,iv p0.Sweep.Site.Step,iv p0.Sweep.Site.Width,iv p0.Sweep.Tilt,iv p0.Sweep.Time,sv ad1 p0.Sweep.Rays cap2,iv p0.Field.Grid.X,iv p0.Field.Grid.Y,iv p0.Field.Grid.Size,iv p0.Field.Grid.Wide,iv p0.Field.Grid.High,sv ad4 p0.Field.Vals cap5,.string p0.Text]) #[iv p0.Kind,.string p0.Name,iv p0.Time,.string p0.Sweep.Site.Name,iv p0.Sweep.Site.X,iv p0.Sweep.Site.Y,iv p0.Sweep.Site.Z,iv p0.Sweep.Site.Rose,iv p0.Sweep.Site.Gates,iv p0.Sweep.Site.Step,iv p0.Sweep.Site.Width,iv p0.Sweep.Tilt,iv p0.Sweep.Time,sv ad1 p0.Sweep.Rays cap2,iv p0.Field.Grid.X,iv p0.Field.Grid.Y,iv p0.Field.Grid.Size,iv p0.Field.Grid.Wide,iv p0.Field.Grid.High,sv ad4 p0.Field.Vals cap5,.string p0.Text] hF hS kr ⟨kr⟩ kr (fun _=>⟨kr⟩) fun b8 w a hF hS=>?_)
 refine rn 2 3 [(1,pb b8)] hF fun a hF=>?_
 refine wfn rfl ?_
 refine esr ?_
 obtain ⟨y9,hy9,h⟩:=A1 h
 refine qx 3 3 [(4,iv y9)] hF (oN 49 0 0 21 hS.e rfl<|oC (fun w2 hd=>Mk F p0 _ hy9 _ w2 (A5 w2) (hA6.mono Rp87.mono (FrzAt.le_mem ((hS.later hd).frz (i:=1) rfl hlow))) (hA7.mono (FrzAt.le_mem ((hS.later hd).frz (i:=1) rfl hlow))))<|A9) fun a w hF hx=>?_
 replace hS:=hS.later hx
 refine wfn rfl ?_
 refine Ar ?_
 refine qnB [(8,.bool (y9 != 0))] hF fun a hF=>?_
 refine Aj hF rfl (fun hc=>?_) (fun hc=>?_)
 ·replace h:=Af h hc
  refine rnB [(2,.slice none 0 0),(3,iv y9)] hF fun a hF=>?_
  refine wpIn_ret (A6<|Ad [.tmp 2,.tmp 3] [.slice none 0 0,iv y9] hF rfl ⟨rfl,rfl,trivial⟩ ?_)
  obtain rfl:=Ao h
  replace hS:=hS.nilarr 5 1 (fK .u8)
  exact ⟨_,rfl,_,_,rfl,St.pick [0] (by decide) hS⟩
 ·replace h:=Ae h hc
  refine wpIn_skip (A0 ?_)
  refine esr ?_
  refine SK.wi (Fe (e:=5) (sz:=1) (f:=(fK .u8)) (t:=22) (len:=1) (fun a2=>[(1,pb b8),(10,sb a2 1)]) #[(0,.int .u8 0)] #[.int .u8 0] ([0]) hF hS kr ⟨kr⟩ kr (Bx .u8) rfl rfl kr (fun _=>⟨kr⟩) fun a2 w a hF hS=>?_)
  refine ro 1 2 [(10,sb a2 1),(11,.agg #[iv p0.Kind,.string p0.Name,iv p0.Time,.string p0.Sweep.Site.Name,iv p0.Sweep.Site.X,iv p0.Sweep.Site.Y,iv p0.Sweep.Site.Z,iv p0.Sweep.Site.Rose,iv p0.Sweep.Site.Gates,iv p0.Sweep.Site.Step,iv p0.Sweep.Site.Width,iv p0.Sweep.Tilt,iv p0.Sweep.Time,sv ad1 p0.Sweep.Rays cap2,iv p0.Field.Grid.X,iv p0.Field.Grid.Y,iv p0.Field.Grid.Size,iv p0.Field.Grid.Wide,iv p0.Field.Grid.High,sv ad4 p0.Field.Vals cap5,.string p0.Text])] hF (oN 49 1 0 21 hS.i rfl<|A9) fun a hF=>?_
  obtain ⟨a7,a6,h⟩:=A1 h
  refine SK.wi (qR (fun a4=>[(12,a4)]) hF (Pw F _ _ a6 (Ay w) w (A5 w) (hA6.mono Rp87.mono (FrzAt.le_mem (hS.frz (i:=2) rfl hlow))) (hA7.mono (FrzAt.le_mem (hS.frz (i:=2) rfl hlow)))) ?_)
  rintro a4 w a ⟨a8,a9,rfl,hQ⟩ hF
  replace hS:=hS.madeL hQ
  obtain ⟨a3,a5,h⟩:=A1 h
  refine SK.wi (Lq (t:=22) (ty:=22) (bytes:=1) (l:=([0])) (l':=a7) (fun a0 a1=>[(13,sv a0 a3 a1)]) 1 hF hS rfl kr ⟨kr⟩ kr (hS.arr (i:=0) rfl) (fun _ _=>rfl) a5 (fun _ _=>⟨kr⟩) fun a0 a1 w a hF hS=>?_)
  refine rn 2 6 [(2,sv a0 a3 a1),(3,iv 0)] hF fun a hF=>?_
  refine wfn rfl ?_
  refine wpIn_ret (Ad [.tmp 2,.tmp 3] [sv a0 a3 a1,iv 0] hF rfl ⟨rfl,rfl,trivial⟩ ?_)
  obtain rfl:=Ao h
  exact ⟨_,rfl,_,_,rfl,St.pick [1] (by decide) hS⟩
theorem Sv (F:Nat) (p0:volume_Item) (res:Int) (h:Kd F p0=some res) (μ:Frz) (w0:World) (hm:FrzAt μ w0) {ad1:Option Addr} {cap2:Nat} {css3:List (List Value)} {ad4:Option Addr} {cap5:Nat} (hA6:ArrQ μ 1 Rp87 ad1 cap2 css3 p0.Sweep.Rays) (hA7:ArrM μ 2 api_Span.cells ad4 cap5 p0.Field.Vals):Calls Tryz.prog 19 #[.agg #[iv p0.Kind,.string p0.Name,iv p0.Time,.string p0.Sweep.Site.Name,iv p0.Sweep.Site.X,iv p0.Sweep.Site.Y,iv p0.Sweep.Site.Z,iv p0.Sweep.Site.Rose,iv p0.Sweep.Site.Gates,iv p0.Sweep.Site.Step,iv p0.Sweep.Site.Width,iv p0.Sweep.Tilt,iv p0.Sweep.Time,sv ad1 p0.Sweep.Rays cap2,iv p0.Field.Grid.X,iv p0.Field.Grid.Y,iv p0.Field.Grid.Size,iv p0.Field.Grid.Wide,iv p0.Field.Grid.High,sv ad4 p0.Field.Vals cap5,.string p0.Text]] w0 (fun e w=>e=.returned (iv res)∧Ext w0 w):=by
 obtain ⟨hlow,hS⟩:=hm.init
 have hext:=Frz.ext_refl w0.heap.size μ
 rw [Kd] at h
 refine Ag Tryz.func19 rfl 11 [(0,.agg #[iv p0.Kind,.string p0.Name,iv p0.Time,.string p0.Sweep.Site.Name,iv p0.Sweep.Site.X,iv p0.Sweep.Site.Y,iv p0.Sweep.Site.Z,iv p0.Sweep.Site.Rose,iv p0.Sweep.Site.Gates,iv p0.Sweep.Site.Step,iv p0.Sweep.Site.Width,iv p0.Sweep.Tilt,iv p0.Sweep.Time,sv ad1 p0.Sweep.Rays cap2,iv p0.Field.Grid.X,iv p0.Field.Grid.Y,iv p0.Field.Grid.Size,iv p0.Field.Grid.Wide,iv p0.Field.Grid.High,sv ad4 p0.Field.Vals cap5,.string p0.Text])] rfl rfl kr fun a w hw hF=>?_
 replace hS:=hS.cast hw
 clear hw
 refine esr ?_
 refine SK.wi (J6 (t:=48) (fun b8=>[(1,pb b8)]) (.agg #[iv p0.Kind,.string p0.Name,iv p0.Time,.string p0.Sweep.Site.Name,iv p0.Sweep.Site.X,iv p0.Sweep.Site.Y,iv p0.Sweep.Site.Z,iv p0.Sweep.Site.Rose,iv p0.Sweep.Site.Gates,iv p0.Sweep.Site.Step,iv p0.Sweep.Site.Width,iv p0.Sweep.Tilt,iv p0.Sweep.Time,sv ad1 p0.Sweep.Rays cap2,iv p0.Field.Grid.X,iv p0.Field.Grid.Y,iv p0.Field.Grid.Size,iv p0.Field.Grid.Wide,iv p0.Field.Grid.High,sv ad4 p0.Field.Vals cap5,.string p0.Text]) #[iv p0.Kind,.string p0.Name,iv p0.Time,.string p0.Sweep.Site.Name,iv p0.Sweep.Site.X,iv p0.Sweep.Site.Y,iv p0.Sweep.Site.Z,iv p0.Sweep.Site.Rose,iv p0.Sweep.Site.Gates,iv p0.Sweep.Site.Step,iv p0.Sweep.Site.Width,iv p0.Sweep.Tilt,iv p0.Sweep.Time,sv ad1 p0.Sweep.Rays cap2,iv p0.Field.Grid.X,iv p0.Field.Grid.Y,iv p0.Field.Grid.Size,iv p0.Field.Grid.Wide,iv p0.Field.Grid.High,sv ad4 p0.Field.Vals cap5,.string p0.Text] hF hS kr ⟨kr⟩ kr (fun _=>⟨kr⟩) fun b8 w a hF hS=>?_)
 refine rn 1 2 [(1,pb b8)] hF fun a hF=>?_
 refine wfn rfl ?_
 refine esr ?_
 refine ro 1 1 [(6,.agg #[iv p0.Kind,.string p0.Name,iv p0.Time,.string p0.Sweep.Site.Name,iv p0.Sweep.Site.X,iv p0.Sweep.Site.Y,iv p0.Sweep.Site.Z,iv p0.Sweep.Site.Rose,iv p0.Sweep.Site.Gates,iv p0.Sweep.Site.Step,iv p0.Sweep.Site.Width,iv p0.Sweep.Tilt,iv p0.Sweep.Time,sv ad1 p0.Sweep.Rays cap2,iv p0.Field.Grid.X,iv p0.Field.Grid.Y,iv p0.Field.Grid.Size,iv p0.Field.Grid.Wide,iv p0.Field.Grid.High,sv ad4 p0.Field.Vals cap5,.string p0.Text])] hF (oN 48 0 0 21 hS.i rfl<|A9) fun a hF=>?_
 obtain ⟨a1,a2,h⟩:=A1 h
 refine SK.wi (rR (fun v9=>[(7,v9)]) hF (N4 F _ _ a2 μ w (hS.frz (i:=1) rfl hlow) hA6 hA7) ?_)
 rintro v9 w a ⟨ν11,a4,a0,rfl,a3,hQ⟩ hF
 replace hext:=Frz.ext_trans hext (Frz.ext_mono a0 hS.ext.size)
 obtain ⟨hlow,hS⟩:=hS.frzMerge (i:=1) rfl hlow a0 hQ
 replace hA6:=hA6.mono Rp87.mono a0.1
 replace hA7:=hA7.mono a0.1
 refine rn 5 7 [(4,iv a1.2)] hF fun a hF=>?_
 refine wfn rfl ?_
 refine rnB [(2,iv a1.2)] hF fun a hF=>?_
 refine wpIn_ret (Ad [.tmp 2] [iv a1.2] hF rfl ⟨rfl,trivial⟩ ?_)
 obtain rfl:=Ao h
 exact ⟨rfl,hS.ext⟩
theorem Ug (F:Nat) (p0:(List ref12_Item)) (res:(List Int)) (h:P3 F p0=some res) (μ:Frz) (w0:World) (hm:FrzAt μ w0) {ad1:Option Addr} {cap2:Nat} {css3:List (List Value)} (hA4:ArrQ μ 21 Rp49 ad1 cap2 css3 p0):Bj Tryz.prog 50 #[sv ad1 p0 cap2] w0 (fun e w=>∃zad0 zcap0,e=(sv zad0 res zcap0)∧St w0 [arrT 5 1 (fK .u8) zad0 res.length zcap0 res] w):=by
 obtain ⟨hlow,hS⟩:=hm.init
 have hext:=Frz.ext_refl w0.heap.size μ
 rw [P3] at h
 refine Ag Tryz.func50 rfl 23 [(0,sv ad1 p0 cap2)] rfl rfl kr fun a w hw hF=>?_
 replace hS:=hS.cast hw
 clear hw
 refine qnB [] hF fun a hF=>?_
 refine esr ?_
 refine SK.wi (Fe (e:=5) (sz:=1) (f:=(fK .u8)) (t:=22) (len:=4) (fun b5=>[(0,sv ad1 p0 cap2),(5,sb b5 4)]) #[(0,.int .u8 82),(1,.int .u8 86),(2,.int .u8 70),(3,.int .u8 49)] #[.int .u8 82,.int .u8 86,.int .u8 70,.int .u8 49] ([82,86,70,49]) hF hS kr ⟨kr⟩ kr (Bx .u8) rfl rfl kr (fun _=>⟨kr⟩) fun b5 w a hF hS=>?_)
 replace hS:St w0 [arrT 5 1 (fK .u8) (some ⟨b5,0,none⟩) ([82,86,70,49]).length 4 ([82,86,70,49]),fz w0 μ] w:=St.toT hS
 refine SK.wi (Pj (src:=22) [(0,sv ad1 p0 cap2),(6,sb b5 4)] 0 hF hS rfl (by decide) kr ⟨kr⟩ kr ⟨kr⟩ fun w a hF hS=>?_)
 refine rn 1 3 [(0,sv ad1 p0 cap2),(3,sb b5 4)] hF fun a hF=>?_
 refine wfn rfl ?_
 refine D9 (fun a w=>∃(a5:(List Int)) (a6:Option Addr) (a8:Nat),Fr 23 [] [(3,sv a6 a5 a8)] a∧St w0 [arrT 5 1 (fK .u8) a6 a5.length a8 a5,fz w0 μ] w∧La a5=some res) ?_ ?_
 ·skip
  refine qnB [(4,iv 0)] hF fun a hF=>?_
  refine wpIn_block ?_
  refine Ci (fun n_ a w=>∃(a1:(List Int)) (a4:Int) (a2:Option Addr) (a3:Nat),Fr 23 [] [(0,sv ad1 p0 cap2),(3,sv a2 a1 a3),(4,iv a4)] a∧St w0 [arrT 5 1 (fK .u8) a2 a1.length a3 a1,fz w0 μ] w∧Fz F p0 n_ a1 a4=some res) F ⟨[82,86,70,49],0,(some ⟨b5,0,none⟩),4,hF.sub kr,St.pick [0,1] (by decide) hS,h⟩ ?_
  rintro nk2 a w ⟨a1,a4,a2,a3,hF,hS,h⟩
  rcases nk2 with _|nk2
  ·cases (show (none:Option (List Int))=some res from h)
  obtain ⟨k2,hk2⟩:∃k,k=Fz F p0 nk2:=⟨_,rfl⟩
  replace h:L9 F p0 k2 a1 a4=some res:=by rw [hk2];exact h
  rw [L9] at h
  refine Ar ?_
  refine qnB [(10,.bool (decide (a4<(ln p0))))] hF fun a hF=>?_
  refine Aj hF rfl (fun hc=>?_) (fun hc=>?_)
  ·replace h:=Af h hc
   refine wpIn_skip (A0 ?_)
   refine Ar ?_
   refine wpIn_block ?_
   obtain ⟨a0,aR,h⟩:=A1 h
   obtain ⟨aH,aP,h⟩:=A1 h
   refine Bt 7 [1,2] _ (D:=fun w=>St w0 [] w∧FrzAt μ w) kr kr hF.size (fun w hx=>?_) (fun _ _ h=>h)
   replace hS:=hS.later hx
   refine ⟨⟨St.pick [] (by decide) hS,hS.frz (i:=1) rfl hlow⟩,?_⟩
   have aZ:=Frz.le_refl μ
   obtain ⟨aX,aJ,aO⟩:=Bd hA4.2 aR
   obtain ⟨aB,aE,aY,aC,aF,rfl,aM,aN⟩:=aO
   refine WT.s [0,3,4,5,6] [1] kr kr ?_
   refine qC 5 [(13,sv a2 a1 a3),(19,.agg #[iv a0.Kind,.string a0.Name,iv a0.Time,.string a0.Sweep.Site.Name,iv a0.Sweep.Site.X,iv a0.Sweep.Site.Y,iv a0.Sweep.Site.Z,iv a0.Sweep.Site.Rose,iv a0.Sweep.Site.Gates,iv a0.Sweep.Site.Step,iv a0.Sweep.Site.Width,iv a0.Sweep.Tilt,iv a0.Sweep.Time,sv aB a0.Sweep.Rays aE,iv a0.Field.Grid.X,iv a0.Field.Grid.Y,iv a0.Field.Grid.Size,iv a0.Field.Grid.Wide,iv a0.Field.Grid.High,sv aC a0.Field.Vals aF,.string a0.Text])] hF (oI 28 (hA4.at (hS.frz (i:=1) rfl hlow)) aJ<|oG 49 0 21 (Bz 21) (fun _ hd=>(hA4.at hd.2)) aJ<|A9) fun a hF=>?_
   refine WRun.fin ?_
   refine all_cons ?_ (At)
   refine Fe (e:=5) (sz:=1) (f:=(fK .u8)) (t:=22) (len:=1) (fun aI=>[(0,sv ad1 p0 cap2),(3,sv a2 a1 a3),(4,iv a4),(13,sv a2 a1 a3),(14,sb aI 1),(19,.agg #[iv a0.Kind,.string a0.Name,iv a0.Time,.string a0.Sweep.Site.Name,iv a0.Sweep.Site.X,iv a0.Sweep.Site.Y,iv a0.Sweep.Site.Z,iv a0.Sweep.Site.Rose,iv a0.Sweep.Site.Gates,iv a0.Sweep.Site.Step,iv a0.Sweep.Site.Width,iv a0.Sweep.Tilt,iv a0.Sweep.Time,sv aB a0.Sweep.Rays aE,iv a0.Field.Grid.X,iv a0.Field.Grid.Y,iv a0.Field.Grid.Size,iv a0.Field.Grid.Wide,iv a0.Field.Grid.High,sv aC a0.Field.Vals aF,.string a0.Text])]) #[(0,.int .u8 0)] #[.int .u8 0] ([0]) hF hS kr ⟨kr⟩ kr (Bx .u8) rfl rfl kr (fun _=>⟨kr⟩) fun aI w a hF hS=>⟨⟨St.pick [] (by decide) hS,(hS.frz (i:=2) rfl hlow)⟩,?_⟩
   refine WT.s [] [2] kr kr ?_
   refine WRun.fin ?_
   refine all_cons ?_ (At)
   refine Ri (t:=22) (ty:=22) (bytes:=1) (l:=a1) (l':=([0])) (fun aD aG=>[(0,sv ad1 p0 cap2),(3,sv a2 a1 a3),(4,iv a4),(15,sv aD aH aG),(19,.agg #[iv a0.Kind,.string a0.Name,iv a0.Time,.string a0.Sweep.Site.Name,iv a0.Sweep.Site.X,iv a0.Sweep.Site.Y,iv a0.Sweep.Site.Z,iv a0.Sweep.Site.Rose,iv a0.Sweep.Site.Gates,iv a0.Sweep.Site.Step,iv a0.Sweep.Site.Width,iv a0.Sweep.Tilt,iv a0.Sweep.Time,sv aB a0.Sweep.Rays aE,iv a0.Field.Grid.X,iv a0.Field.Grid.Y,iv a0.Field.Grid.Size,iv a0.Field.Grid.Wide,iv a0.Field.Grid.High,sv aC a0.Field.Vals aF,.string a0.Text])]) 1 hF hS rfl kr ⟨kr⟩ kr (hS.arr (i:=0) rfl) (fun _ _=>rfl) aP (fun _ _=>⟨kr⟩) fun aD aG w a hF hS=>⟨⟨St.pick [] (by decide) hS,(hS.frz (i:=2) rfl hlow)⟩,?_⟩
   refine WT.z [] kr ?_
   refine WRun.fin ?_
   obtain ⟨aU,aT,h⟩:=A1 h
   refine SK.wi (rR (fun aK=>[(0,sv ad1 p0 cap2),(3,sv a2 a1 a3),(4,iv a4),(15,sv aD aH aG),(20,aK)]) hF (Pw F _ _ aT (Ay w) w (A5 w) (aM.mono Rp87.mono (FrzAt.le_mem (hS.frz (i:=2) rfl hlow))) (aN.mono (FrzAt.le_mem (hS.frz (i:=2) rfl hlow)))) ?_)
   rintro aK w a ⟨aV,aW,rfl,hQ⟩ hF
   replace hS:=hS.madeL hQ
   obtain ⟨aA,aQ,h⟩:=A1 h
   refine SK.wi (Ri (t:=22) (ty:=22) (bytes:=1) (l:=aH) (l':=aU) (fun a7 a9=>[(0,sv ad1 p0 cap2),(3,sv a2 a1 a3),(4,iv a4),(21,sv a7 aA a9)]) 2 hF hS rfl kr ⟨kr⟩ kr (hS.arr (i:=0) rfl) (fun _ _=>rfl) aQ (fun _ _=>⟨kr⟩) fun a7 a9 w a hF hS=>?_)
   refine rn 1 10 [(0,sv ad1 p0 cap2),(3,sv a7 aA a9),(4,iv a4)] hF fun a hF=>?_
   refine WI.fin rfl (Ab<|A0<|?_)
   refine WI.region ?_
   obtain ⟨aL,aS,h⟩:=A1 h
   refine ro 3 3 [(0,sv ad1 p0 cap2),(3,sv a7 aA a9),(4,iv aL)] hF (oA 3 aS<|A9) fun a hF=>?_
   refine wfn rfl ?_
   rw [hk2] at h
   exact ⟨nk2,Nat.lt_succ_self _,aA,aL,a7,a9,hF.sub kr,St.pick [2,3] (by decide) hS,h⟩
  ·replace h:=Ae h hc
   refine wpIn_exit (Aa<|Aa<|Av<|A0 ?_)
   exact ⟨a1,a2,a3,hF.sub kr,St.pick [0,1] (by decide) hS,h⟩
 rintro a w ⟨a5,a6,a8,hF,hS,h⟩
 rw [La] at h
 refine rnB [(2,sv a6 a5 a8)] hF fun a hF=>?_
 refine wpIn_ret (Ad [.tmp 2] [sv a6 a5 a8] hF rfl ⟨rfl,trivial⟩ ?_)
 obtain rfl:=Ao h
 exact ⟨_,rfl,_,_,rfl,St.pick [0] (by decide) hS⟩
end Go.Proofs.YtifbomimeodibaaGreat
