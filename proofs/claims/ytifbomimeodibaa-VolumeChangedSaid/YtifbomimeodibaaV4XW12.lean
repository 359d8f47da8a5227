import Derived.Test.YtifbomimeodibaaV4XD
import Derived.Test.YtifbomimeodibaaProg
import Derived.Test.YtifbomimeodibaaV4XW11
namespace Go.Proofs.Ytifbomimeodibaa
open Go Go.RowKit Go.Eng
set_option maxRecDepth 10000
set_option maxHeartbeats 4000000
set_option linter.unusedVariables false
set_option linter.unusedSimpArgs false
theorem Nl (F:Nat) (p0:(List volume_Item)) (res:((List Int)×Int)) (h:H9 F p0=some res) (μ:Frz) (w0:World) (hm:FrzAt μ w0) {ad1:Option Addr} {cap2:Nat} {css3:List (List Value)} (hA4:ArrQ μ 21 Rp46 ad1 cap2 css3 p0):Dd Try.prog 9 #[sv ad1 p0 cap2] w0 (fun e w=>∃zad0 zcap0,e=(.tuple #[sv zad0 res.1 zcap0,iv res.2])∧St w0 [arrT 5 1 (fK .u8) zad0 res.1.length zcap0 res.1] w):=by
 obtain ⟨hlow,hS⟩:=hm.init
 have hext:=Frz.ext_refl w0.heap.size μ
 rw [H9] at h
 refine Aq Try.func9 rfl 36 [(0,sv ad1 p0 cap2)] rfl rfl kr fun a w hw hF=>?_
 replace hS:=hS.cast hw
 clear hw
 refine esr ?_
 refine rn 2 2 [(0,sv ad1 p0 cap2)] hF fun a hF=>?_
 refine wfn rfl ?_
 refine B0 ?_
 refine esr ?_
 refine rn 3 3 [(0,sv ad1 p0 cap2),(11,.bool (decide ((ln p0)>1000)))] hF fun a hF=>?_
 refine wfn rfl ?_
 refine As hF rfl (fun hc=>?_) (fun hc=>?_)
 ·replace h:=Ao h hc
  refine esr ?_
  refine rn 2 2 [(2,.slice none 0 0),(3,iv 9)] hF fun a hF=>?_
  refine wfn rfl ?_
  refine wpIn_ret (Ab<|Ak [.tmp 2,.tmp 3] [.slice none 0 0,iv 9] hF rfl ⟨rfl,rfl,trivial⟩ ?_)
  have hr_:=Option.some.inj h
  subst hr_
  replace hS:=hS.nilT 5 1 (fK .u8)
  exact ⟨_,rfl,_,_,rfl,St.pick [0] (by decide) hS⟩
 ·replace h:=An h hc
  refine wpIn_skip (A1 ?_)
  refine esr ?_
  refine SK.wi (G0 (e:=5) (sz:=1) (f:=(fK .u8)) (t:=23) (len:=4) (fun b5=>[(0,sv ad1 p0 cap2),(12,sb b5 4)]) #[(0,.int .u8 82),(1,.int .u8 86),(2,.int .u8 70),(3,.int .u8 49)] #[.int .u8 82,.int .u8 86,.int .u8 70,.int .u8 49] ([82,86,70,49]) hF hS kr ⟨kr⟩ kr (Cf .u8) rfl rfl kr (fun _=>⟨kr⟩) fun b5 w a hF hS=>?_)
  replace hS:St w0 [arrT 5 1 (fK .u8) (some ⟨b5,0,none⟩) ([82,86,70,49]).length 4 ([82,86,70,49]),fz w0 μ] w:=St.toT hS
  refine SK.wi (Px (src:=23) [(0,sv ad1 p0 cap2),(13,sb b5 4)] 0 hF hS rfl (by decide) kr ⟨kr⟩ kr ⟨kr⟩ fun w a hF hS=>?_)
  refine rn 1 3 [(0,sv ad1 p0 cap2),(4,sb b5 4)] hF fun a hF=>?_
  refine wfn rfl ?_
  refine Ei (fun a w=>∃(a9:(List Int)) (aB:Option Addr) (aC:Nat),Fr 36 [] [(4,sv aB a9 aC)] a∧St w0 [arrT 5 1 (fK .u8) aB a9.length aC a9,fz w0 μ] w∧Jh a9=some res) ?_ ?_
  ·skip
   refine esr ?_
   refine rn 3 3 [(4,sb b5 4),(14,sv ad1 p0 cap2),(15,iv (ln p0)),(16,iv 0)] hF fun a hF=>?_
   refine wfn rfl ?_
   refine wpIn_block ?_
   refine E4 (fun n_ a w=>∃(a1:Int) (a2:(List Int)) (a3:Option Addr) (a4:Nat),Fr 36 [] [(4,sv a3 a2 a4),(14,sv ad1 p0 cap2),(15,iv (ln p0)),(16,iv a1)] a∧St w0 [arrT 5 1 (fK .u8) a3 a2.length a4 a2,fz w0 μ] w∧G2 F p0 n_ a1 a2=some res) F ⟨0,[82,86,70,49],(some ⟨b5,0,none⟩),4,hF.sub kr,St.pick [0,1] (by decide) hS,h⟩ ?_
   rintro nk2 a w ⟨a1,a2,a3,a4,hF,hS,h⟩
   rcases nk2 with _|nk2
   ·cases (show (none:Option ((List Int)×Int))=some res from h)
   obtain ⟨k2,hk2⟩:∃k,k=G2 F p0 nk2:=⟨_,rfl⟩
   replace h:Jg F p0 k2 a1 a2=some res:=by rw [hk2];exact h
   rw [Jg] at h
   refine esr ?_
   refine rn 1 1 [(4,sv a3 a2 a4),(14,sv ad1 p0 cap2),(15,iv (ln p0)),(16,iv a1),(17,.bool (decide (a1<(ln p0))))] hF fun a hF=>?_
   refine wfn rfl ?_
   refine B0 ?_
   refine As hF rfl (fun hc=>?_) (fun hc=>?_)
   ·replace h:=Ao h hc
    refine wpIn_skip (A1 ?_)
    refine B0 ?_
    refine wpIn_block ?_
    refine esr ?_
    replace h:=A4 h
    obtain ⟨a0,aQ,h⟩:=h
    obtain ⟨aT,aK,aO⟩:=Dn hA4.2 aQ
    obtain ⟨a5,a7,aU,a6,a8,rfl,aM,aN⟩:=aO
    refine rno 2 [.run [] (Instr.indexAt 24 (sv ad1 p0 cap2) (iv a1)) (.pointer (some (Ag ad1 a1 21))),.run [] (Instr.loadAt 46 (.pointer (some (Ag ad1 a1 21)))) (.agg #[iv a0.Kind,.string a0.Name,iv a0.Time,.string a0.Sweep.Site.Name,iv a0.Sweep.Site.X,iv a0.Sweep.Site.Y,iv a0.Sweep.Site.Z,iv a0.Sweep.Site.Rose,iv a0.Sweep.Site.Gates,iv a0.Sweep.Site.Step,iv a0.Sweep.Site.Width,iv a0.Sweep.Tilt,iv a0.Sweep.Time,sv a5 a0.Sweep.Rays a7,iv a0.Field.Grid.X,iv a0.Field.Grid.Y,iv a0.Field.Grid.Size,iv a0.Field.Grid.Wide,iv a0.Field.Grid.High,sv a6 a0.Field.Vals a8,.string a0.Text])] 2 [(4,sv a3 a2 a4),(14,sv ad1 p0 cap2),(15,iv (ln p0)),(16,iv a1),(19,.agg #[iv a0.Kind,.string a0.Name,iv a0.Time,.string a0.Sweep.Site.Name,iv a0.Sweep.Site.X,iv a0.Sweep.Site.Y,iv a0.Sweep.Site.Z,iv a0.Sweep.Site.Rose,iv a0.Sweep.Site.Gates,iv a0.Sweep.Site.Step,iv a0.Sweep.Site.Width,iv a0.Sweep.Tilt,iv a0.Sweep.Time,sv a5 a0.Sweep.Rays a7,iv a0.Field.Grid.X,iv a0.Field.Grid.Y,iv a0.Field.Grid.Size,iv a0.Field.Grid.Wide,iv a0.Field.Grid.High,sv a6 a0.Field.Vals a8,.string a0.Text])] hF (A0 (Bc (hA4.at (hS.frz (i:=1) rfl hlow)) kr (fun _=>aK)) (A0 (Ft (m:=21) (i:=a1) (us:=[iv a0.Kind,.string a0.Name,iv a0.Time,.string a0.Sweep.Site.Name,iv a0.Sweep.Site.X,iv a0.Sweep.Site.Y,iv a0.Sweep.Site.Z,iv a0.Sweep.Site.Rose,iv a0.Sweep.Site.Gates,iv a0.Sweep.Site.Step,iv a0.Sweep.Site.Width,iv a0.Sweep.Tilt,iv a0.Sweep.Time,sv a5 a0.Sweep.Rays a7,iv a0.Field.Grid.X,iv a0.Field.Grid.Y,iv a0.Field.Grid.Size,iv a0.Field.Grid.Wide,iv a0.Field.Grid.High,sv a6 a0.Field.Vals a8,.string a0.Text]) 0 (Dp 21) (fun _ hd=>(hA4.at ((hS.at_ hd).frz (i:=1) rfl hlow))) kr (fun _=>aK) ⟨rfl,rfl⟩) Aa)) fun a hF=>?_
    refine SK.wi (Bs (t:=46) (fun aF=>[(4,sv a3 a2 a4),(6,pb aF),(14,sv ad1 p0 cap2),(15,iv (ln p0)),(16,iv a1),(19,.agg #[iv a0.Kind,.string a0.Name,iv a0.Time,.string a0.Sweep.Site.Name,iv a0.Sweep.Site.X,iv a0.Sweep.Site.Y,iv a0.Sweep.Site.Z,iv a0.Sweep.Site.Rose,iv a0.Sweep.Site.Gates,iv a0.Sweep.Site.Step,iv a0.Sweep.Site.Width,iv a0.Sweep.Tilt,iv a0.Sweep.Time,sv a5 a0.Sweep.Rays a7,iv a0.Field.Grid.X,iv a0.Field.Grid.Y,iv a0.Field.Grid.Size,iv a0.Field.Grid.Wide,iv a0.Field.Grid.High,sv a6 a0.Field.Vals a8,.string a0.Text])]) #[iv 0,.string ByteArray.empty,iv 0,.string ByteArray.empty,iv 0,iv 0,iv 0,iv 0,iv 0,iv 0,iv 0,iv 0,iv 0,.slice none 0 0,iv 0,iv 0,iv 0,iv 0,iv 0,.slice none 0 0,.string ByteArray.empty] hF hS kr ⟨kr⟩ kr (fun _=>⟨kr⟩) fun aF w a hF hS=>?_)
    refine SK.wi (Ap (t:=46) [(4,sv a3 a2 a4),(6,pb aF),(14,sv ad1 p0 cap2),(15,iv (ln p0)),(16,iv a1)] 0 0 (.agg #[iv a0.Kind,.string a0.Name,iv a0.Time,.string a0.Sweep.Site.Name,iv a0.Sweep.Site.X,iv a0.Sweep.Site.Y,iv a0.Sweep.Site.Z,iv a0.Sweep.Site.Rose,iv a0.Sweep.Site.Gates,iv a0.Sweep.Site.Step,iv a0.Sweep.Site.Width,iv a0.Sweep.Tilt,iv a0.Sweep.Time,sv a5 a0.Sweep.Rays a7,iv a0.Field.Grid.X,iv a0.Field.Grid.Y,iv a0.Field.Grid.Size,iv a0.Field.Grid.Wide,iv a0.Field.Grid.High,sv a6 a0.Field.Vals a8,.string a0.Text]) #[iv a0.Kind,.string a0.Name,iv a0.Time,.string a0.Sweep.Site.Name,iv a0.Sweep.Site.X,iv a0.Sweep.Site.Y,iv a0.Sweep.Site.Z,iv a0.Sweep.Site.Rose,iv a0.Sweep.Site.Gates,iv a0.Sweep.Site.Step,iv a0.Sweep.Site.Width,iv a0.Sweep.Tilt,iv a0.Sweep.Time,sv a5 a0.Sweep.Rays a7,iv a0.Field.Grid.X,iv a0.Field.Grid.Y,iv a0.Field.Grid.Size,iv a0.Field.Grid.Wide,iv a0.Field.Grid.High,sv a6 a0.Field.Vals a8,.string a0.Text] hF hS rfl kr ⟨kr⟩ kr kr kr kr ⟨kr⟩ fun w a hF hS=>?_)
    refine wfn rfl ?_
    refine esr ?_
    refine rno 1 [.run [] (Instr.loadAt 46 (pb aF)) (.agg #[iv a0.Kind,.string a0.Name,iv a0.Time,.string a0.Sweep.Site.Name,iv a0.Sweep.Site.X,iv a0.Sweep.Site.Y,iv a0.Sweep.Site.Z,iv a0.Sweep.Site.Rose,iv a0.Sweep.Site.Gates,iv a0.Sweep.Site.Step,iv a0.Sweep.Site.Width,iv a0.Sweep.Tilt,iv a0.Sweep.Time,sv a5 a0.Sweep.Rays a7,iv a0.Field.Grid.X,iv a0.Field.Grid.Y,iv a0.Field.Grid.Size,iv a0.Field.Grid.Wide,iv a0.Field.Grid.High,sv a6 a0.Field.Vals a8,.string a0.Text])] 1 [(4,sv a3 a2 a4),(14,sv ad1 p0 cap2),(15,iv (ln p0)),(16,iv a1),(21,.agg #[iv a0.Kind,.string a0.Name,iv a0.Time,.string a0.Sweep.Site.Name,iv a0.Sweep.Site.X,iv a0.Sweep.Site.Y,iv a0.Sweep.Site.Z,iv a0.Sweep.Site.Rose,iv a0.Sweep.Site.Gates,iv a0.Sweep.Site.Step,iv a0.Sweep.Site.Width,iv a0.Sweep.Tilt,iv a0.Sweep.Time,sv a5 a0.Sweep.Rays a7,iv a0.Field.Grid.X,iv a0.Field.Grid.Y,iv a0.Field.Grid.Size,iv a0.Field.Grid.Wide,iv a0.Field.Grid.High,sv a6 a0.Field.Vals a8,.string a0.Text])] hF (A0 (obN (us:=[iv a0.Kind,.string a0.Name,iv a0.Time,.string a0.Sweep.Site.Name,iv a0.Sweep.Site.X,iv a0.Sweep.Site.Y,iv a0.Sweep.Site.Z,iv a0.Sweep.Site.Rose,iv a0.Sweep.Site.Gates,iv a0.Sweep.Site.Step,iv a0.Sweep.Site.Width,iv a0.Sweep.Tilt,iv a0.Sweep.Time,sv a5 a0.Sweep.Rays a7,iv a0.Field.Grid.X,iv a0.Field.Grid.Y,iv a0.Field.Grid.Size,iv a0.Field.Grid.Wide,iv a0.Field.Grid.High,sv a6 a0.Field.Vals a8,.string a0.Text]) kr (fun _ hd=>((hS.at_ hd).blk (i:=0) rfl).cells rfl)) Aa) fun a hF=>?_
    replace h:=A4 h
    obtain ⟨aA,aS,h⟩:=h
    refine SK.wi (Bz (fun aL=>[(4,sv a3 a2 a4),(14,sv ad1 p0 cap2),(15,iv (ln p0)),(16,iv a1),(22,aL)]) hF kr ⟨kr⟩ (Ke F _ _ aS (Bp w) w (A7 w) (aM.mono Rp83.mono (FrzAt.le_mem (hS.frz (i:=2) rfl hlow))) (aN.mono (FrzAt.le_mem (hS.frz (i:=2) rfl hlow)))) (fun _=>⟨kr⟩) ?_)
    rintro aL w a ⟨aH,aI,rfl,hQ⟩ hF
    replace hS:=hS.madeL hQ
    refine rn 5 7 [(4,sv a3 a2 a4),(7,sv aH aA.1 aI),(8,iv aA.2),(14,sv ad1 p0 cap2),(15,iv (ln p0)),(16,iv a1)] hF fun a hF=>?_
    refine wfn rfl ?_
    refine B0 ?_
    refine esr ?_
    refine rn 2 2 [(4,sv a3 a2 a4),(7,sv aH aA.1 aI),(8,iv aA.2),(14,sv ad1 p0 cap2),(15,iv (ln p0)),(16,iv a1),(26,.bool (aA.2 != 0))] hF fun a hF=>?_
    refine wfn rfl ?_
    refine As hF rfl (fun hc=>?_) (fun hc=>?_)
    ·replace h:=Ao h hc
     refine esr ?_
     refine rn 3 3 [(2,.slice none 0 0),(3,iv aA.2)] hF fun a hF=>?_
     refine wfn rfl ?_
     refine wpIn_ret (Ab<|Ar<|Ab<|Ab<|Ar<|Ab<|Ak [.tmp 2,.tmp 3] [.slice none 0 0,iv aA.2] hF rfl ⟨rfl,rfl,trivial⟩ ?_)
     have hr_:=Option.some.inj h
     subst hr_
     replace hS:=hS.nilT 5 1 (fK .u8)
     exact ⟨_,rfl,_,_,rfl,St.pick [0] (by decide) hS⟩
    ·replace h:=An h hc
     refine wpIn_skip (A1 ?_)
     refine WI.region ?_
     refine rn 2 2 [(4,sv a3 a2 a4),(14,sv ad1 p0 cap2),(15,iv (ln p0)),(16,iv a1),(28,sv a3 a2 a4),(29,sv aH aA.1 aI)] hF fun a hF=>?_
     replace h:=A4 h
     obtain ⟨aG,aP,h⟩:=h
     refine SK.wi (S6 (t:=23) (ty:=23) (bytes:=1) (l:=a2) (l':=aA.1) (fun aD aE=>[(4,sv a3 a2 a4),(14,sv ad1 p0 cap2),(15,iv (ln p0)),(16,iv a1),(30,sv aD aG aE)]) 2 hF hS rfl kr ⟨kr⟩ kr (hS.arr (i:=0) rfl) (fun _ _=>rfl) aP (fun _ _=>⟨kr⟩) fun aD aE w a hF hS=>?_)
     refine rn 1 4 [(4,sv aD aG aE),(14,sv ad1 p0 cap2),(15,iv (ln p0)),(16,iv a1)] hF fun a hF=>?_
     refine WI.fin rfl (Ac<|A1<|?_)
     refine WI.region ?_
     replace h:=A4 h
     obtain ⟨aJ,aR,h⟩:=h
     refine rno 2 [.run [] (binOp .add 3 (iv a1) (iv 1)) (iv aJ)] 2 [(4,sv aD aG aE),(14,sv ad1 p0 cap2),(15,iv (ln p0)),(16,iv aJ)] hF (A0 (Aw (fun _=>aR)) Aa) fun a hF=>?_
     refine wfn rfl ?_
     rw [hk2] at h
     exact ⟨nk2,Nat.lt_succ_self _,aJ,aG,aD,aE,hF.sub kr,St.pick [2,3] (by decide) hS,h⟩
   ·replace h:=An h hc
    refine wpIn_exit (Ad<|Ad<|Bb<|A1 ?_)
    exact ⟨a2,a3,a4,hF.sub kr,St.pick [0,1] (by decide) hS,h⟩
  rintro a w ⟨a9,aB,aC,hF,hS,h⟩
  rw [Jh] at h
  refine B0 ?_
  refine esr ?_
  refine rn 3 3 [(4,sv aB a9 aC),(34,.bool (decide ((ln a9)>16777216)))] hF fun a hF=>?_
  refine wfn rfl ?_
  refine As hF rfl (fun hc=>?_) (fun hc=>?_)
  ·replace h:=Ao h hc
   refine esr ?_
   refine rn 2 2 [(2,.slice none 0 0),(3,iv 8)] hF fun a hF=>?_
   refine wfn rfl ?_
   refine wpIn_ret (Ab<|Ak [.tmp 2,.tmp 3] [.slice none 0 0,iv 8] hF rfl ⟨rfl,rfl,trivial⟩ ?_)
   have hr_:=Option.some.inj h
   subst hr_
   replace hS:=hS.nilT 5 1 (fK .u8)
   exact ⟨_,rfl,_,_,rfl,St.pick [0] (by decide) hS⟩
  ·replace h:=An h hc
   refine wpIn_skip (A1 ?_)
   refine esr ?_
   refine rn 3 3 [(2,sv aB a9 aC),(3,iv 0)] hF fun a hF=>?_
   refine wfn rfl ?_
   refine wpIn_ret (Ak [.tmp 2,.tmp 3] [sv aB a9 aC,iv 0] hF rfl ⟨rfl,rfl,trivial⟩ ?_)
   have hr_:=Option.some.inj h
   subst hr_
   exact ⟨_,rfl,_,_,rfl,St.pick [0] (by decide) hS⟩
theorem R2 (F:Nat) (p0:(List volume_Item)) (res:(List Int)) (h:J8 F p0=some res) (μ:Frz) (w0:World) (hm:FrzAt μ w0) {ad1:Option Addr} {cap2:Nat} {css3:List (List Value)} (hA4:ArrQ μ 21 Rp46 ad1 cap2 css3 p0):Dd Try.prog 16 #[sv ad1 p0 cap2] w0 (fun e w=>∃zad0 zcap0,e=(sv zad0 res zcap0)∧St w0 [arr 3 1 fI zad0 res.length zcap0 res] w):=by
 obtain ⟨hlow,hS⟩:=hm.init
 have hext:=Frz.ext_refl w0.heap.size μ
 rw [J8] at h
 refine Aq Try.func16 rfl 34 [(0,sv ad1 p0 cap2)] rfl rfl kr fun a w hw hF=>?_
 replace hS:=hS.cast hw
 clear hw
 refine esr ?_
 refine rn 1 1 [(0,sv ad1 p0 cap2)] hF fun a hF=>?_
 refine wfn rfl ?_
 refine esr ?_
 refine SK.wi (G0 (e:=3) (sz:=1) (f:=fI) (t:=51) (len:=1) (fun b5=>[(0,sv ad1 p0 cap2),(8,sb b5 1)]) #[(0,iv 4)] #[iv 4] ([4]) hF hS kr ⟨kr⟩ kr Ee rfl rfl kr (fun _=>⟨kr⟩) fun b5 w a hF hS=>?_)
 refine rn 1 2 [(0,sv ad1 p0 cap2),(3,sb b5 1)] hF fun a hF=>?_
 refine wfn rfl ?_
 refine Ei (fun a w=>∃(a9:(List Int)) (aC:Option Addr) (aE:Nat),Fr 34 [] [(3,sv aC a9 aE)] a∧St w0 [arr 3 1 fI aC a9.length aE a9,fz w0 μ] w∧J1 a9=some res) ?_ ?_
 ·skip
  refine esr ?_
  refine rn 3 3 [(3,sb b5 1),(9,sv ad1 p0 cap2),(10,iv (ln p0)),(11,iv 0)] hF fun a hF=>?_
  refine wfn rfl ?_
  refine wpIn_block ?_
  refine E4 (fun n_ a w=>∃(a2:Int) (a1:(List Int)) (a3:Option Addr) (a4:Nat),Fr 34 [] [(3,sv a3 a1 a4),(9,sv ad1 p0 cap2),(10,iv (ln p0)),(11,iv a2)] a∧St w0 [arr 3 1 fI a3 a1.length a4 a1,fz w0 μ] w∧Ej F p0 n_ a2 a1=some res) F ⟨0,[4],(some ⟨b5,0,none⟩),1,hF.sub kr,St.pick [0,1] (by decide) hS,h⟩ ?_
  rintro nk2 a w ⟨a2,a1,a3,a4,hF,hS,h⟩
  rcases nk2 with _|nk2
  ·cases (show (none:Option (List Int))=some res from h)
  obtain ⟨k2,hk2⟩:∃k,k=Ej F p0 nk2:=⟨_,rfl⟩
  replace h:J0 F p0 k2 a2 a1=some res:=by rw [hk2];exact h
  rw [J0] at h
  refine esr ?_
  refine rn 1 1 [(3,sv a3 a1 a4),(9,sv ad1 p0 cap2),(10,iv (ln p0)),(11,iv a2),(12,.bool (decide (a2<(ln p0))))] hF fun a hF=>?_
  refine wfn rfl ?_
  refine B0 ?_
  refine As hF rfl (fun hc=>?_) (fun hc=>?_)
  ·replace h:=Ao h hc
   refine wpIn_skip (A1 ?_)
   refine B0 ?_
   refine wpIn_block ?_
   refine esr ?_
   replace h:=A4 h
   obtain ⟨a0,aV,h⟩:=h
   obtain ⟨b0,aK,aT⟩:=Dn hA4.2 aV
   obtain ⟨a5,a7,b1,a6,a8,rfl,aR,aS⟩:=aT
   refine rno 2 [.run [] (Instr.indexAt 24 (sv ad1 p0 cap2) (iv a2)) (.pointer (some (Ag ad1 a2 21))),.run [] (Instr.loadAt 46 (.pointer (some (Ag ad1 a2 21)))) (.agg #[iv a0.Kind,.string a0.Name,iv a0.Time,.string a0.Sweep.Site.Name,iv a0.Sweep.Site.X,iv a0.Sweep.Site.Y,iv a0.Sweep.Site.Z,iv a0.Sweep.Site.Rose,iv a0.Sweep.Site.Gates,iv a0.Sweep.Site.Step,iv a0.Sweep.Site.Width,iv a0.Sweep.Tilt,iv a0.Sweep.Time,sv a5 a0.Sweep.Rays a7,iv a0.Field.Grid.X,iv a0.Field.Grid.Y,iv a0.Field.Grid.Size,iv a0.Field.Grid.Wide,iv a0.Field.Grid.High,sv a6 a0.Field.Vals a8,.string a0.Text])] 2 [(3,sv a3 a1 a4),(9,sv ad1 p0 cap2),(10,iv (ln p0)),(11,iv a2),(14,.agg #[iv a0.Kind,.string a0.Name,iv a0.Time,.string a0.Sweep.Site.Name,iv a0.Sweep.Site.X,iv a0.Sweep.Site.Y,iv a0.Sweep.Site.Z,iv a0.Sweep.Site.Rose,iv a0.Sweep.Site.Gates,iv a0.Sweep.Site.Step,iv a0.Sweep.Site.Width,iv a0.Sweep.Tilt,iv a0.Sweep.Time,sv a5 a0.Sweep.Rays a7,iv a0.Field.Grid.X,iv a0.Field.Grid.Y,iv a0.Field.Grid.Size,iv a0.Field.Grid.Wide,iv a0.Field.Grid.High,sv a6 a0.Field.Vals a8,.string a0.Text])] hF (A0 (Bc (hA4.at (hS.frz (i:=1) rfl hlow)) kr (fun _=>aK)) (A0 (Ft (m:=21) (i:=a2) (us:=[iv a0.Kind,.string a0.Name,iv a0.Time,.string a0.Sweep.Site.Name,iv a0.Sweep.Site.X,iv a0.Sweep.Site.Y,iv a0.Sweep.Site.Z,iv a0.Sweep.Site.Rose,iv a0.Sweep.Site.Gates,iv a0.Sweep.Site.Step,iv a0.Sweep.Site.Width,iv a0.Sweep.Tilt,iv a0.Sweep.Time,sv a5 a0.Sweep.Rays a7,iv a0.Field.Grid.X,iv a0.Field.Grid.Y,iv a0.Field.Grid.Size,iv a0.Field.Grid.Wide,iv a0.Field.Grid.High,sv a6 a0.Field.Vals a8,.string a0.Text]) 0 (Dp 21) (fun _ hd=>(hA4.at ((hS.at_ hd).frz (i:=1) rfl hlow))) kr (fun _=>aK) ⟨rfl,rfl⟩) Aa)) fun a hF=>?_
   refine SK.wi (Bs (t:=46) (fun aG=>[(3,sv a3 a1 a4),(5,pb aG),(9,sv ad1 p0 cap2),(10,iv (ln p0)),(11,iv a2),(14,.agg #[iv a0.Kind,.string a0.Name,iv a0.Time,.string a0.Sweep.Site.Name,iv a0.Sweep.Site.X,iv a0.Sweep.Site.Y,iv a0.Sweep.Site.Z,iv a0.Sweep.Site.Rose,iv a0.Sweep.Site.Gates,iv a0.Sweep.Site.Step,iv a0.Sweep.Site.Width,iv a0.Sweep.Tilt,iv a0.Sweep.Time,sv a5 a0.Sweep.Rays a7,iv a0.Field.Grid.X,iv a0.Field.Grid.Y,iv a0.Field.Grid.Size,iv a0.Field.Grid.Wide,iv a0.Field.Grid.High,sv a6 a0.Field.Vals a8,.string a0.Text])]) #[iv 0,.string ByteArray.empty,iv 0,.string ByteArray.empty,iv 0,iv 0,iv 0,iv 0,iv 0,iv 0,iv 0,iv 0,iv 0,.slice none 0 0,iv 0,iv 0,iv 0,iv 0,iv 0,.slice none 0 0,.string ByteArray.empty] hF hS kr ⟨kr⟩ kr (fun _=>⟨kr⟩) fun aG w a hF hS=>?_)
   refine SK.wi (Ap (t:=46) [(3,sv a3 a1 a4),(5,pb aG),(9,sv ad1 p0 cap2),(10,iv (ln p0)),(11,iv a2)] 0 0 (.agg #[iv a0.Kind,.string a0.Name,iv a0.Time,.string a0.Sweep.Site.Name,iv a0.Sweep.Site.X,iv a0.Sweep.Site.Y,iv a0.Sweep.Site.Z,iv a0.Sweep.Site.Rose,iv a0.Sweep.Site.Gates,iv a0.Sweep.Site.Step,iv a0.Sweep.Site.Width,iv a0.Sweep.Tilt,iv a0.Sweep.Time,sv a5 a0.Sweep.Rays a7,iv a0.Field.Grid.X,iv a0.Field.Grid.Y,iv a0.Field.Grid.Size,iv a0.Field.Grid.Wide,iv a0.Field.Grid.High,sv a6 a0.Field.Vals a8,.string a0.Text]) #[iv a0.Kind,.string a0.Name,iv a0.Time,.string a0.Sweep.Site.Name,iv a0.Sweep.Site.X,iv a0.Sweep.Site.Y,iv a0.Sweep.Site.Z,iv a0.Sweep.Site.Rose,iv a0.Sweep.Site.Gates,iv a0.Sweep.Site.Step,iv a0.Sweep.Site.Width,iv a0.Sweep.Tilt,iv a0.Sweep.Time,sv a5 a0.Sweep.Rays a7,iv a0.Field.Grid.X,iv a0.Field.Grid.Y,iv a0.Field.Grid.Size,iv a0.Field.Grid.Wide,iv a0.Field.Grid.High,sv a6 a0.Field.Vals a8,.string a0.Text] hF hS rfl kr ⟨kr⟩ kr kr kr kr ⟨kr⟩ fun w a hF hS=>?_)
   refine wfn rfl ?_
   refine esr ?_
   refine rno 1 [.run [] (Instr.loadAt 46 (pb aG)) (.agg #[iv a0.Kind,.string a0.Name,iv a0.Time,.string a0.Sweep.Site.Name,iv a0.Sweep.Site.X,iv a0.Sweep.Site.Y,iv a0.Sweep.Site.Z,iv a0.Sweep.Site.Rose,iv a0.Sweep.Site.Gates,iv a0.Sweep.Site.Step,iv a0.Sweep.Site.Width,iv a0.Sweep.Tilt,iv a0.Sweep.Time,sv a5 a0.Sweep.Rays a7,iv a0.Field.Grid.X,iv a0.Field.Grid.Y,iv a0.Field.Grid.Size,iv a0.Field.Grid.Wide,iv a0.Field.Grid.High,sv a6 a0.Field.Vals a8,.string a0.Text])] 1 [(3,sv a3 a1 a4),(9,sv ad1 p0 cap2),(10,iv (ln p0)),(11,iv a2),(16,.agg #[iv a0.Kind,.string a0.Name,iv a0.Time,.string a0.Sweep.Site.Name,iv a0.Sweep.Site.X,iv a0.Sweep.Site.Y,iv a0.Sweep.Site.Z,iv a0.Sweep.Site.Rose,iv a0.Sweep.Site.Gates,iv a0.Sweep.Site.Step,iv a0.Sweep.Site.Width,iv a0.Sweep.Tilt,iv a0.Sweep.Time,sv a5 a0.Sweep.Rays a7,iv a0.Field.Grid.X,iv a0.Field.Grid.Y,iv a0.Field.Grid.Size,iv a0.Field.Grid.Wide,iv a0.Field.Grid.High,sv a6 a0.Field.Vals a8,.string a0.Text])] hF (A0 (obN (us:=[iv a0.Kind,.string a0.Name,iv a0.Time,.string a0.Sweep.Site.Name,iv a0.Sweep.Site.X,iv a0.Sweep.Site.Y,iv a0.Sweep.Site.Z,iv a0.Sweep.Site.Rose,iv a0.Sweep.Site.Gates,iv a0.Sweep.Site.Step,iv a0.Sweep.Site.Width,iv a0.Sweep.Tilt,iv a0.Sweep.Time,sv a5 a0.Sweep.Rays a7,iv a0.Field.Grid.X,iv a0.Field.Grid.Y,iv a0.Field.Grid.Size,iv a0.Field.Grid.Wide,iv a0.Field.Grid.High,sv a6 a0.Field.Vals a8,.string a0.Text]) kr (fun _ hd=>((hS.at_ hd).blk (i:=0) rfl).cells rfl)) Aa) fun a hF=>?_
   replace h:=A4 h
   obtain ⟨aO,aZ,h⟩:=h
   refine SK.wi (Bz (fun aN=>[(3,sv a3 a1 a4),(9,sv ad1 p0 cap2),(10,iv (ln p0)),(11,iv a2),(17,aN)]) hF kr ⟨kr⟩ (Ke F _ _ aZ (Bp w) w (A7 w) (aR.mono Rp83.mono (FrzAt.le_mem (hS.frz (i:=2) rfl hlow))) (aS.mono (FrzAt.le_mem (hS.frz (i:=2) rfl hlow)))) (fun _=>⟨kr⟩) ?_)
   rintro aN w a ⟨aP,aQ,rfl,hQ⟩ hF
   replace hS:=hS.madeL hQ
   refine rn 5 7 [(3,sv a3 a1 a4),(6,sv aP aO.1 aQ),(9,sv ad1 p0 cap2),(10,iv (ln p0)),(11,iv a2)] hF fun a hF=>?_
   refine wfn rfl ?_
   refine WI.region ?_
   replace h:=A4 h
   obtain ⟨aF,aW,h⟩:=h
   replace h:=A4 h
   obtain ⟨aM,aL,h⟩:=h
   replace h:=A4 h
   obtain ⟨aA,aX,h⟩:=h
   refine rno 10 [.run [] (binOp .sub 3 (iv (ln a1)) (iv 1)) (iv aF),.run [] (Instr.indexAt 51 (sv a3 a1 a4) (iv aF)) (.pointer (some (Ag a3 aF 1))),.run [] (Instr.loadAt 3 (.pointer (some (Ag a3 aF 1)))) (iv aM),.run [] (binOp .add 3 (iv aM) (iv (ln aO.1))) (iv aA)] 10 [(3,sv a3 a1 a4),(9,sv ad1 p0 cap2),(10,iv (ln p0)),(11,iv a2),(20,sv a3 a1 a4),(29,iv aA)] hF (A0 (Jk (fun _=>aW)) (A0 (Bc (hS.arr (i:=2) rfl) kr (fun _=>aL)) (A0 (Ey (i:=aF) 0 Ee (fun _ hd=>((hS.at_ hd).arr (i:=2) rfl)) kr (fun _=>aL) rfl) (A0 (Aw (fun _=>aX)) Aa)))) fun a hF=>?_
   refine SK.wi (G0 (e:=3) (sz:=1) (f:=fI) (t:=51) (len:=1) (fun aJ=>[(3,sv a3 a1 a4),(9,sv ad1 p0 cap2),(10,iv (ln p0)),(11,iv a2),(20,sv a3 a1 a4),(30,sb aJ 1)]) #[(0,iv aA)] #[iv aA] ([aA]) hF hS kr ⟨kr⟩ kr Ee rfl rfl kr (fun _=>⟨kr⟩) fun aJ w a hF hS=>?_)
   replace h:=A4 h
   obtain ⟨aH,aU,h⟩:=h
   refine SK.wi (S4 (t:=51) (ty:=51) (bytes:=8) (l:=a1) (l':=([aA])) (fun aB aD=>[(3,sv a3 a1 a4),(9,sv ad1 p0 cap2),(10,iv (ln p0)),(11,iv a2),(31,sv aB aH aD)]) 3 hF hS rfl kr ⟨kr⟩ kr (hS.arr (i:=0) rfl) (fun _ _=>rfl) aU (fun _ _=>⟨kr⟩) fun aB aD w a hF hS=>?_)
   refine rn 1 13 [(3,sv aB aH aD),(9,sv ad1 p0 cap2),(10,iv (ln p0)),(11,iv a2)] hF fun a hF=>?_
   refine WI.fin rfl (Ac<|A1<|?_)
   refine WI.region ?_
   replace h:=A4 h
   obtain ⟨aI,aY,h⟩:=h
   refine rno 2 [.run [] (binOp .add 3 (iv a2) (iv 1)) (iv aI)] 2 [(3,sv aB aH aD),(9,sv ad1 p0 cap2),(10,iv (ln p0)),(11,iv aI)] hF (A0 (Aw (fun _=>aY)) Aa) fun a hF=>?_
   refine wfn rfl ?_
   rw [hk2] at h
   exact ⟨nk2,Nat.lt_succ_self _,aI,aH,aB,aD,hF.sub kr,St.pick [3,4] (by decide) hS,h⟩
  ·replace h:=An h hc
   refine wpIn_exit (Ad<|Ad<|Bb<|A1 ?_)
   exact ⟨a1,a3,a4,hF.sub kr,St.pick [0,1] (by decide) hS,h⟩
 rintro a w ⟨a9,aC,aE,hF,hS,h⟩
 rw [J1] at h
 refine esr ?_
 refine rn 2 2 [(2,sv aC a9 aE)] hF fun a hF=>?_
 refine wfn rfl ?_
 refine wpIn_ret (Ak [.tmp 2] [sv aC a9 aE] hF rfl ⟨rfl,trivial⟩ ?_)
 have hr_:=Option.some.inj h
 subst hr_
 exact ⟨_,rfl,_,_,rfl,St.pick [0] (by decide) hS⟩
end Go.Proofs.Ytifbomimeodibaa
