import Derived.Test.YtifbomimeodibaaV6XD
import Derived.Test.YtifbomimeodibaaProg
import Derived.Test.YtifbomimeodibaaV6XW1
import Derived.Test.YtifbomimeodibaaV6XW3
import Derived.Test.YtifbomimeodibaaV6XW12
namespace Go.Proofs.Ytifbomimeodibaa
open Go Go.RowKit Go.Eng
set_option maxRecDepth 10000
set_option maxHeartbeats 4000000
set_option linter.unusedVariables false
set_option linter.unusedSimpArgs false
theorem My (F:Nat) (p0:(List volume_Item)) (res:((List Int)×Int)) (h:H0 F p0=some res) (μ:Frz) (w0:World) (hm:FrzAt μ w0) {ad1:Option Addr} {cap2:Nat} {css3:List (List Value)} (hA4:ArrQ μ 21 Rp46 ad1 cap2 css3 p0):Df Try.prog 9 #[sv ad1 p0 cap2] w0 (fun e w=>∃zad0 zcap0,e=(.tuple #[sv zad0 res.1 zcap0,iv res.2])∧St w0 [arrT 5 1 (fK .u8) zad0 res.1.length zcap0 res.1] w):=by
 obtain ⟨hlow,hS⟩:=hm.init
 have hext:=Frz.ext_refl w0.heap.size μ
 rw [H0] at h
 refine Ap Try.func9 rfl 36 [(0,sv ad1 p0 cap2)] rfl rfl kr fun a w hw hF=>?_
 replace hS:=hS.cast hw
 clear hw
 refine esr ?_
 refine rn 2 2 [(0,sv ad1 p0 cap2)] hF fun a hF=>?_
 refine wfn rfl ?_
 refine Ay ?_
 refine esr ?_
 refine rn 3 3 [(0,sv ad1 p0 cap2),(11,.bool (decide ((ln p0)>1000)))] hF fun a hF=>?_
 refine wfn rfl ?_
 refine Ar hF rfl (fun hc=>?_) (fun hc=>?_)
 ·replace h:=Am h hc
  refine esr ?_
  refine rn 2 2 [(2,.slice none 0 0),(3,iv 9)] hF fun a hF=>?_
  refine wfn rfl ?_
  refine wpIn_ret (A8<|Ah [.tmp 2,.tmp 3] [.slice none 0 0,iv 9] hF rfl ⟨rfl,rfl,trivial⟩ ?_)
  have hr_:=Option.some.inj h
  subst hr_
  replace hS:=hS.nilT 5 1 (fK .u8)
  exact ⟨_,rfl,_,_,rfl,St.pick [0] (by decide) hS⟩
 ·replace h:=Al h hc
  refine wpIn_skip (A1 ?_)
  refine esr ?_
  refine SK.wi (Fu (e:=5) (sz:=1) (f:=(fK .u8)) (t:=23) (len:=4) (fun b5=>[(0,sv ad1 p0 cap2),(12,sb b5 4)]) #[(0,.int .u8 82),(1,.int .u8 86),(2,.int .u8 70),(3,.int .u8 49)] #[.int .u8 82,.int .u8 86,.int .u8 70,.int .u8 49] ([82,86,70,49]) hF hS kr ⟨kr⟩ kr (Cz .u8) rfl rfl kr (fun _=>⟨kr⟩) fun b5 w a hF hS=>?_)
  replace hS:St w0 [arrT 5 1 (fK .u8) (some ⟨b5,0,none⟩) ([82,86,70,49]).length 4 ([82,86,70,49]),fz w0 μ] w:=St.toT hS
  refine SK.wi (Pn (src:=23) [(0,sv ad1 p0 cap2),(13,sb b5 4)] 0 hF hS rfl (by decide) kr ⟨kr⟩ kr ⟨kr⟩ fun w a hF hS=>?_)
  refine rn 1 3 [(0,sv ad1 p0 cap2),(4,sb b5 4)] hF fun a hF=>?_
  refine wfn rfl ?_
  refine Eg (fun a w=>∃(a9:(List Int)) (aB:Option Addr) (aC:Nat),Fr 36 [] [(4,sv aB a9 aC)] a∧St w0 [arrT 5 1 (fK .u8) aB a9.length aC a9,fz w0 μ] w∧J5 a9=some res) ?_ ?_
  ·skip
   refine esr ?_
   refine rn 3 3 [(4,sb b5 4),(14,sv ad1 p0 cap2),(15,iv (ln p0)),(16,iv 0)] hF fun a hF=>?_
   refine wfn rfl ?_
   refine wpIn_block ?_
   refine E4 (fun n_ a w=>∃(a1:Int) (a2:(List Int)) (a3:Option Addr) (a4:Nat),Fr 36 [] [(4,sv a3 a2 a4),(14,sv ad1 p0 cap2),(15,iv (ln p0)),(16,iv a1)] a∧St w0 [arrT 5 1 (fK .u8) a3 a2.length a4 a2,fz w0 μ] w∧Fw F p0 n_ a1 a2=some res) F ⟨0,[82,86,70,49],(some ⟨b5,0,none⟩),4,hF.sub kr,St.pick [0,1] (by decide) hS,h⟩ ?_
   rintro nk2 a w ⟨a1,a2,a3,a4,hF,hS,h⟩
   rcases nk2 with _|nk2
   ·cases (show (none:Option ((List Int)×Int))=some res from h)
   obtain ⟨k2,hk2⟩:∃k,k=Fw F p0 nk2:=⟨_,rfl⟩
   replace h:J4 F p0 k2 a1 a2=some res:=by rw [hk2];exact h
   rw [J4] at h
   refine esr ?_
   refine rn 1 1 [(4,sv a3 a2 a4),(14,sv ad1 p0 cap2),(15,iv (ln p0)),(16,iv a1),(17,.bool (decide (a1<(ln p0))))] hF fun a hF=>?_
   refine wfn rfl ?_
   refine Ay ?_
   refine Ar hF rfl (fun hc=>?_) (fun hc=>?_)
   ·replace h:=Am h hc
    refine wpIn_skip (A1 ?_)
    refine Ay ?_
    refine wpIn_block ?_
    refine esr ?_
    replace h:=A5 h
    obtain ⟨a0,aQ,h⟩:=h
    obtain ⟨aT,aK,aO⟩:=Ef hA4.2 aQ
    obtain ⟨a5,a7,aU,a6,a8,rfl,aM,aN⟩:=aO
    refine rno 2 [.run [] (Instr.indexAt 24 (sv ad1 p0 cap2) (iv a1)) (.pointer (some (An ad1 a1 21))),.run [] (Instr.loadAt 46 (.pointer (some (An ad1 a1 21)))) (.agg #[iv a0.Kind,.string a0.Name,iv a0.Time,.string a0.Sweep.Site.Name,iv a0.Sweep.Site.X,iv a0.Sweep.Site.Y,iv a0.Sweep.Site.Z,iv a0.Sweep.Site.Rose,iv a0.Sweep.Site.Gates,iv a0.Sweep.Site.Step,iv a0.Sweep.Site.Width,iv a0.Sweep.Tilt,iv a0.Sweep.Time,sv a5 a0.Sweep.Rays a7,iv a0.Field.Grid.X,iv a0.Field.Grid.Y,iv a0.Field.Grid.Size,iv a0.Field.Grid.Wide,iv a0.Field.Grid.High,sv a6 a0.Field.Vals a8,.string a0.Text])] 2 [(4,sv a3 a2 a4),(14,sv ad1 p0 cap2),(15,iv (ln p0)),(16,iv a1),(19,.agg #[iv a0.Kind,.string a0.Name,iv a0.Time,.string a0.Sweep.Site.Name,iv a0.Sweep.Site.X,iv a0.Sweep.Site.Y,iv a0.Sweep.Site.Z,iv a0.Sweep.Site.Rose,iv a0.Sweep.Site.Gates,iv a0.Sweep.Site.Step,iv a0.Sweep.Site.Width,iv a0.Sweep.Tilt,iv a0.Sweep.Time,sv a5 a0.Sweep.Rays a7,iv a0.Field.Grid.X,iv a0.Field.Grid.Y,iv a0.Field.Grid.Size,iv a0.Field.Grid.Wide,iv a0.Field.Grid.High,sv a6 a0.Field.Vals a8,.string a0.Text])] hF (A0 (Bi (hA4.at (hS.frz (i:=1) rfl hlow)) kr (fun _=>aK)) (A0 (Gw (m:=21) (i:=a1) (us:=[iv a0.Kind,.string a0.Name,iv a0.Time,.string a0.Sweep.Site.Name,iv a0.Sweep.Site.X,iv a0.Sweep.Site.Y,iv a0.Sweep.Site.Z,iv a0.Sweep.Site.Rose,iv a0.Sweep.Site.Gates,iv a0.Sweep.Site.Step,iv a0.Sweep.Site.Width,iv a0.Sweep.Tilt,iv a0.Sweep.Time,sv a5 a0.Sweep.Rays a7,iv a0.Field.Grid.X,iv a0.Field.Grid.Y,iv a0.Field.Grid.Size,iv a0.Field.Grid.Wide,iv a0.Field.Grid.High,sv a6 a0.Field.Vals a8,.string a0.Text]) 0 (Fb 21) (fun _ hd=>(hA4.at ((hS.at_ hd).frz (i:=1) rfl hlow))) kr (fun _=>aK) ⟨rfl,rfl⟩) Ab)) fun a hF=>?_
    refine SK.wi (Bs (t:=46) (fun aF=>[(4,sv a3 a2 a4),(6,pb aF),(14,sv ad1 p0 cap2),(15,iv (ln p0)),(16,iv a1),(19,.agg #[iv a0.Kind,.string a0.Name,iv a0.Time,.string a0.Sweep.Site.Name,iv a0.Sweep.Site.X,iv a0.Sweep.Site.Y,iv a0.Sweep.Site.Z,iv a0.Sweep.Site.Rose,iv a0.Sweep.Site.Gates,iv a0.Sweep.Site.Step,iv a0.Sweep.Site.Width,iv a0.Sweep.Tilt,iv a0.Sweep.Time,sv a5 a0.Sweep.Rays a7,iv a0.Field.Grid.X,iv a0.Field.Grid.Y,iv a0.Field.Grid.Size,iv a0.Field.Grid.Wide,iv a0.Field.Grid.High,sv a6 a0.Field.Vals a8,.string a0.Text])]) #[iv 0,.string ByteArray.empty,iv 0,.string ByteArray.empty,iv 0,iv 0,iv 0,iv 0,iv 0,iv 0,iv 0,iv 0,iv 0,.slice none 0 0,iv 0,iv 0,iv 0,iv 0,iv 0,.slice none 0 0,.string ByteArray.empty] hF hS kr ⟨kr⟩ kr (fun _=>⟨kr⟩) fun aF w a hF hS=>?_)
    refine SK.wi (Ao (t:=46) [(4,sv a3 a2 a4),(6,pb aF),(14,sv ad1 p0 cap2),(15,iv (ln p0)),(16,iv a1)] 0 0 (.agg #[iv a0.Kind,.string a0.Name,iv a0.Time,.string a0.Sweep.Site.Name,iv a0.Sweep.Site.X,iv a0.Sweep.Site.Y,iv a0.Sweep.Site.Z,iv a0.Sweep.Site.Rose,iv a0.Sweep.Site.Gates,iv a0.Sweep.Site.Step,iv a0.Sweep.Site.Width,iv a0.Sweep.Tilt,iv a0.Sweep.Time,sv a5 a0.Sweep.Rays a7,iv a0.Field.Grid.X,iv a0.Field.Grid.Y,iv a0.Field.Grid.Size,iv a0.Field.Grid.Wide,iv a0.Field.Grid.High,sv a6 a0.Field.Vals a8,.string a0.Text]) #[iv a0.Kind,.string a0.Name,iv a0.Time,.string a0.Sweep.Site.Name,iv a0.Sweep.Site.X,iv a0.Sweep.Site.Y,iv a0.Sweep.Site.Z,iv a0.Sweep.Site.Rose,iv a0.Sweep.Site.Gates,iv a0.Sweep.Site.Step,iv a0.Sweep.Site.Width,iv a0.Sweep.Tilt,iv a0.Sweep.Time,sv a5 a0.Sweep.Rays a7,iv a0.Field.Grid.X,iv a0.Field.Grid.Y,iv a0.Field.Grid.Size,iv a0.Field.Grid.Wide,iv a0.Field.Grid.High,sv a6 a0.Field.Vals a8,.string a0.Text] hF hS rfl kr ⟨kr⟩ kr kr kr kr ⟨kr⟩ fun w a hF hS=>?_)
    refine wfn rfl ?_
    refine esr ?_
    refine rno 1 [.run [] (Instr.loadAt 46 (pb aF)) (.agg #[iv a0.Kind,.string a0.Name,iv a0.Time,.string a0.Sweep.Site.Name,iv a0.Sweep.Site.X,iv a0.Sweep.Site.Y,iv a0.Sweep.Site.Z,iv a0.Sweep.Site.Rose,iv a0.Sweep.Site.Gates,iv a0.Sweep.Site.Step,iv a0.Sweep.Site.Width,iv a0.Sweep.Tilt,iv a0.Sweep.Time,sv a5 a0.Sweep.Rays a7,iv a0.Field.Grid.X,iv a0.Field.Grid.Y,iv a0.Field.Grid.Size,iv a0.Field.Grid.Wide,iv a0.Field.Grid.High,sv a6 a0.Field.Vals a8,.string a0.Text])] 1 [(4,sv a3 a2 a4),(14,sv ad1 p0 cap2),(15,iv (ln p0)),(16,iv a1),(21,.agg #[iv a0.Kind,.string a0.Name,iv a0.Time,.string a0.Sweep.Site.Name,iv a0.Sweep.Site.X,iv a0.Sweep.Site.Y,iv a0.Sweep.Site.Z,iv a0.Sweep.Site.Rose,iv a0.Sweep.Site.Gates,iv a0.Sweep.Site.Step,iv a0.Sweep.Site.Width,iv a0.Sweep.Tilt,iv a0.Sweep.Time,sv a5 a0.Sweep.Rays a7,iv a0.Field.Grid.X,iv a0.Field.Grid.Y,iv a0.Field.Grid.Size,iv a0.Field.Grid.Wide,iv a0.Field.Grid.High,sv a6 a0.Field.Vals a8,.string a0.Text])] hF (A0 (obN (us:=[iv a0.Kind,.string a0.Name,iv a0.Time,.string a0.Sweep.Site.Name,iv a0.Sweep.Site.X,iv a0.Sweep.Site.Y,iv a0.Sweep.Site.Z,iv a0.Sweep.Site.Rose,iv a0.Sweep.Site.Gates,iv a0.Sweep.Site.Step,iv a0.Sweep.Site.Width,iv a0.Sweep.Tilt,iv a0.Sweep.Time,sv a5 a0.Sweep.Rays a7,iv a0.Field.Grid.X,iv a0.Field.Grid.Y,iv a0.Field.Grid.Size,iv a0.Field.Grid.Wide,iv a0.Field.Grid.High,sv a6 a0.Field.Vals a8,.string a0.Text]) kr (fun _ hd=>((hS.at_ hd).blk (i:=0) rfl).cells rfl)) Ab) fun a hF=>?_
    replace h:=A5 h
    obtain ⟨aA,aS,h⟩:=h
    refine SK.wi (Cb (fun aL=>[(4,sv a3 a2 a4),(14,sv ad1 p0 cap2),(15,iv (ln p0)),(16,iv a1),(22,aL)]) hF kr ⟨kr⟩ (Nv F _ _ aS (Br w) w (A7 w) (aM.mono Rp83.mono (FrzAt.le_mem (hS.frz (i:=2) rfl hlow))) (aN.mono (FrzAt.le_mem (hS.frz (i:=2) rfl hlow)))) (fun _=>⟨kr⟩) ?_)
    rintro aL w a ⟨aH,aI,rfl,hQ⟩ hF
    replace hS:=hS.madeL hQ
    refine rn 5 7 [(4,sv a3 a2 a4),(7,sv aH aA.1 aI),(8,iv aA.2),(14,sv ad1 p0 cap2),(15,iv (ln p0)),(16,iv a1)] hF fun a hF=>?_
    refine wfn rfl ?_
    refine Ay ?_
    refine esr ?_
    refine rn 2 2 [(4,sv a3 a2 a4),(7,sv aH aA.1 aI),(8,iv aA.2),(14,sv ad1 p0 cap2),(15,iv (ln p0)),(16,iv a1),(26,.bool (aA.2 != 0))] hF fun a hF=>?_
    refine wfn rfl ?_
    refine Ar hF rfl (fun hc=>?_) (fun hc=>?_)
    ·replace h:=Am h hc
     refine esr ?_
     refine rn 3 3 [(2,.slice none 0 0),(3,iv aA.2)] hF fun a hF=>?_
     refine wfn rfl ?_
     refine wpIn_ret (A8<|Ak<|A8<|A8<|Ak<|A8<|Ah [.tmp 2,.tmp 3] [.slice none 0 0,iv aA.2] hF rfl ⟨rfl,rfl,trivial⟩ ?_)
     have hr_:=Option.some.inj h
     subst hr_
     replace hS:=hS.nilT 5 1 (fK .u8)
     exact ⟨_,rfl,_,_,rfl,St.pick [0] (by decide) hS⟩
    ·replace h:=Al h hc
     refine wpIn_skip (A1 ?_)
     refine WI.region ?_
     refine rn 2 2 [(4,sv a3 a2 a4),(14,sv ad1 p0 cap2),(15,iv (ln p0)),(16,iv a1),(28,sv a3 a2 a4),(29,sv aH aA.1 aI)] hF fun a hF=>?_
     replace h:=A5 h
     obtain ⟨aG,aP,h⟩:=h
     refine SK.wi (Rr (t:=23) (ty:=23) (bytes:=1) (l:=a2) (l':=aA.1) (fun aD aE=>[(4,sv a3 a2 a4),(14,sv ad1 p0 cap2),(15,iv (ln p0)),(16,iv a1),(30,sv aD aG aE)]) 2 hF hS rfl kr ⟨kr⟩ kr (hS.arr (i:=0) rfl) (fun _ _=>rfl) aP (fun _ _=>⟨kr⟩) fun aD aE w a hF hS=>?_)
     refine rn 1 4 [(4,sv aD aG aE),(14,sv ad1 p0 cap2),(15,iv (ln p0)),(16,iv a1)] hF fun a hF=>?_
     refine WI.fin rfl (Ac<|A1<|?_)
     refine WI.region ?_
     replace h:=A5 h
     obtain ⟨aJ,aR,h⟩:=h
     refine rno 2 [.run [] (binOp .add 3 (iv a1) (iv 1)) (iv aJ)] 2 [(4,sv aD aG aE),(14,sv ad1 p0 cap2),(15,iv (ln p0)),(16,iv aJ)] hF (A0 (Av (fun _=>aR)) Ab) fun a hF=>?_
     refine wfn rfl ?_
     rw [hk2] at h
     exact ⟨nk2,Nat.lt_succ_self _,aJ,aG,aD,aE,hF.sub kr,St.pick [2,3] (by decide) hS,h⟩
   ·replace h:=Al h hc
    refine wpIn_exit (Ad<|Ad<|B6<|A1 ?_)
    exact ⟨a2,a3,a4,hF.sub kr,St.pick [0,1] (by decide) hS,h⟩
  rintro a w ⟨a9,aB,aC,hF,hS,h⟩
  rw [J5] at h
  refine Ay ?_
  refine esr ?_
  refine rn 3 3 [(4,sv aB a9 aC),(34,.bool (decide ((ln a9)>16777216)))] hF fun a hF=>?_
  refine wfn rfl ?_
  refine Ar hF rfl (fun hc=>?_) (fun hc=>?_)
  ·replace h:=Am h hc
   refine esr ?_
   refine rn 2 2 [(2,.slice none 0 0),(3,iv 8)] hF fun a hF=>?_
   refine wfn rfl ?_
   refine wpIn_ret (A8<|Ah [.tmp 2,.tmp 3] [.slice none 0 0,iv 8] hF rfl ⟨rfl,rfl,trivial⟩ ?_)
   have hr_:=Option.some.inj h
   subst hr_
   replace hS:=hS.nilT 5 1 (fK .u8)
   exact ⟨_,rfl,_,_,rfl,St.pick [0] (by decide) hS⟩
  ·replace h:=Al h hc
   refine wpIn_skip (A1 ?_)
   refine esr ?_
   refine rn 3 3 [(2,sv aB a9 aC),(3,iv 0)] hF fun a hF=>?_
   refine wfn rfl ?_
   refine wpIn_ret (Ah [.tmp 2,.tmp 3] [sv aB a9 aC,iv 0] hF rfl ⟨rfl,rfl,trivial⟩ ?_)
   have hr_:=Option.some.inj h
   subst hr_
   exact ⟨_,rfl,_,_,rfl,St.pick [0] (by decide) hS⟩
theorem Nu (F:Nat) (p0:(List Int)) (p1:volume_Query) (res:((List Int)×Int)) (h:Jc F p0 p1=some res) (μ:Frz) (w0:World) (hm:FrzAt μ w0) {ad1:Option Addr} {cap2:Nat} (hA3:ArrM μ 1 (fK .u8) ad1 cap2 p0):Df Try.prog 20 #[sv ad1 p0 cap2,p1.ag] w0 (fun e w=>∃zad0 zcap0,e=(.tuple #[sv zad0 res.1 zcap0,iv res.2])∧St w0 [arr 3 1 fI zad0 res.1.length zcap0 res.1] w):=by
 obtain ⟨hlow,hS⟩:=hm.init
 have hext:=Frz.ext_refl w0.heap.size μ
 rw [Jc] at h
 refine Ap Try.func20 rfl 88 [(0,sv ad1 p0 cap2),(1,p1.ag)] rfl rfl kr fun a w hw hF=>?_
 replace hS:=hS.cast hw
 clear hw
 refine esr ?_
 refine SK.wi (Fk (t:=63) (fun b4=>[(0,sv ad1 p0 cap2),(3,pb b4)]) (p1.ag) p1.ar hF hS kr ⟨kr⟩ kr (fun _=>⟨kr⟩) fun b4 w a hF hS=>?_)
 refine rn 2 3 [(0,sv ad1 p0 cap2),(3,pb b4)] hF fun a hF=>?_
 refine wfn rfl ?_
 refine Ay ?_
 refine wpIn_block ?_
 refine esr ?_
 refine rno 9 [.run [] (Instr.loadAt 3 (pb b4)) (iv p1.Kind),.run [⟨17,false,(decide (p1.Kind<0))⟩] (Instr.loadAt 3 (pb b4)) (iv p1.Kind)] 9 [(0,sv ad1 p0 cap2),(3,pb b4),(13,.bool (bif (decide (p1.Kind<0)) then true else (decide (p1.Kind>3))))] hF (A0 (ob1 kr (fun _ hd=>(hS.at_ hd).cell (i:=0) (j:=0) rfl rfl)) (A0 (ob1 kr (fun _ hd=>(hS.at_ hd).cell (i:=0) (j:=0) rfl rfl)) Ab)) fun a hF=>?_
 refine wfn rfl ?_
 refine Ar hF rfl (fun hc=>?_) (fun hc=>?_)
 ·replace h:=Am h hc
  refine esr ?_
  refine rn 2 2 [(4,.slice none 0 0),(5,iv 2)] hF fun a hF=>?_
  refine wfn rfl ?_
  refine wpIn_ret (Ak<|A8<|Ah [.tmp 4,.tmp 5] [.slice none 0 0,iv 2] hF rfl ⟨rfl,rfl,trivial⟩ ?_)
  have hr_:=Option.some.inj h
  subst hr_
  replace hS:=hS.nilarr 3 1 fI
  exact ⟨_,rfl,_,_,rfl,St.pick [0] (by decide) hS⟩
 ·replace h:=Al h hc
  refine esr ?_
  refine rno 6 [.run [] (Instr.loadAt 3 (.pointer (some ⟨b4,2,none⟩))) (iv p1.From),.run [] (Instr.loadAt 3 (.pointer (some ⟨b4,3,none⟩))) (iv p1.To)] 6 [(0,sv ad1 p0 cap2),(3,pb b4),(22,.bool (decide (p1.From>p1.To)))] hF (A0 (ob1 kr (fun _ hd=>(hS.at_ hd).cell (i:=0) (j:=2) rfl rfl)) (A0 (ob1 kr (fun _ hd=>(hS.at_ hd).cell (i:=0) (j:=3) rfl rfl)) Ab)) fun a hF=>?_
  refine wfn rfl ?_
  refine Ar hF rfl (fun hc=>?_) (fun hc=>?_)
  ·replace h:=Am h hc
   refine esr ?_
   refine rn 2 2 [(4,.slice none 0 0),(5,iv 3)] hF fun a hF=>?_
   refine wfn rfl ?_
   refine wpIn_ret (Ak<|A8<|Ah [.tmp 4,.tmp 5] [.slice none 0 0,iv 3] hF rfl ⟨rfl,rfl,trivial⟩ ?_)
   have hr_:=Option.some.inj h
   subst hr_
   replace hS:=hS.nilarr 3 1 fI
   exact ⟨_,rfl,_,_,rfl,St.pick [0] (by decide) hS⟩
  ·replace h:=Al h hc
   refine wpIn_skip (Ac<|A1<|?_)
   refine esr ?_
   refine rn 1 1 [(3,pb b4),(29,sv ad1 p0 cap2)] hF fun a hF=>?_
   replace h:=A5 h
   obtain ⟨y6,hy6,h⟩:=h
   refine SK.wi (Cb (fun v5=>[(3,pb b4),(30,v5)]) hF kr ⟨kr⟩ (Gr F _ _ hy6 μ w (hS.frz (i:=1) rfl hlow) hA3) (fun _=>⟨kr⟩) ?_)
   rintro v5 w a ⟨ν7,ad9,a4,b0,hx8,rfl,aD,hQ⟩ hF
   replace hext:=Frz.ext_trans hext (Frz.ext_mono hx8 hS.ext.size)
   obtain ⟨hlow,hS⟩:=hS.frzMerge (i:=1) rfl hlow hx8 hQ
   replace hA3:=hA3.mono hx8.1
   refine rn 7 9 [(3,pb b4),(6,sv ad9 y6.1 a4),(8,iv y6.2.2)] hF fun a hF=>?_
   refine wfn rfl ?_
   refine Ay ?_
   refine esr ?_
   refine rn 2 2 [(3,pb b4),(6,sv ad9 y6.1 a4),(8,iv y6.2.2),(35,.bool (y6.2.2 != 0))] hF fun a hF=>?_
   refine wfn rfl ?_
   refine Ar hF rfl (fun hc=>?_) (fun hc=>?_)
   ·replace h:=Am h hc
    refine esr ?_
    refine rn 3 3 [(4,.slice none 0 0),(5,iv y6.2.2)] hF fun a hF=>?_
    refine wfn rfl ?_
    refine wpIn_ret (A8<|Ah [.tmp 4,.tmp 5] [.slice none 0 0,iv y6.2.2] hF rfl ⟨rfl,rfl,trivial⟩ ?_)
    have hr_:=Option.some.inj h
    subst hr_
    replace hS:=hS.nilarr 3 1 fI
    exact ⟨_,rfl,_,_,rfl,St.pick [0] (by decide) hS⟩
   ·replace h:=Al h hc
    refine wpIn_skip (A1 ?_)
    refine esr ?_
    refine rn 1 1 [(3,pb b4),(6,sv ad9 y6.1 a4),(9,.slice none 0 0)] hF fun a hF=>?_
    refine wfn rfl ?_
    have aG:=Frz.le_refl ν7
    refine Eg (fun a w=>∃(aJ:(List Int)) (ν311:Frz) (aL:Option Addr) (aN:Nat),Fr 88 [] [(9,sv aL aJ aN)] a∧St w0 [arr 3 1 fI aL aJ.length aN aJ,arr 46 21 (fN 21) ad9 y6.1.length a4 b0,blk b4 63 p1.ar,fz w0 ν311] w∧(ν7.le ν311)∧(μ.ext w0.heap.size ν311)∧(B4 w0 ν311)∧Jt aJ=some res) ?_ ?_
    ·skip
     refine esr ?_
     refine rn 3 3 [(3,pb b4),(9,.slice none 0 0),(37,sv ad9 y6.1 a4),(38,iv (ln y6.1)),(39,iv 0)] hF fun a hF=>?_
     refine wfn rfl ?_
     refine wpIn_block ?_
     have bE:=Frz.le_refl ν7
     replace hS:=hS.nilarr 3 1 fI
     refine E4 (fun n_ a w=>∃(a2:Int) (a3:(List Int)) (ν513:Frz) (a5:Option Addr) (a6:Nat),Fr 88 [] [(3,pb b4),(9,sv a5 a3 a6),(37,sv ad9 y6.1 a4),(38,iv (ln y6.1)),(39,iv a2)] a∧St w0 [arr 3 1 fI a5 a3.length a6 a3,arr 46 21 (fN 21) ad9 y6.1.length a4 b0,blk b4 63 p1.ar,fz w0 ν513] w∧(ν7.le ν513)∧(μ.ext w0.heap.size ν513)∧(B4 w0 ν513)∧C4 p1 y6 n_ a2 a3=some res) F ⟨0,[],ν7,none,0,hF.sub kr,St.pick [0,1,2,3] (by decide) hS,bE,hext,hlow,h⟩ ?_
     clear bE
     rintro nk2 a w ⟨a2,a3,ν513,a5,a6,hF,hS,aH,hext,hlow,h⟩
     rcases nk2 with _|nk2
     ·cases (show (none:Option ((List Int)×Int))=some res from h)
     replace hA3:=hA3.mono aH
     replace aD:=All2.mono Rp46.mono aH aD
     replace aG:=Frz.le_trans aG aH
     obtain ⟨k2,hk2⟩:∃k,k=C4 p1 y6 nk2:=⟨_,rfl⟩
     replace h:Js p1 y6 k2 a2 a3=some res:=by rw [hk2];exact h
     rw [Js] at h
     refine esr ?_
     refine rn 1 1 [(3,pb b4),(9,sv a5 a3 a6),(37,sv ad9 y6.1 a4),(38,iv (ln y6.1)),(39,iv a2),(40,.bool (decide (a2<(ln y6.1))))] hF fun a hF=>?_
     refine wfn rfl ?_
     refine Ay ?_
     refine Ar hF rfl (fun hc=>?_) (fun hc=>?_)
     ·replace h:=Am h hc
      refine wpIn_skip (A1 ?_)
      have aC:=Frz.le_refl ν513
      refine Eg (fun a w=>∃(aK:(List Int)) (ν564:Frz) (aM:Option Addr) (aO:Nat),Fr 88 [] [(3,pb b4),(9,sv aM aK aO),(37,sv ad9 y6.1 a4),(38,iv (ln y6.1)),(39,iv a2)] a∧St w0 [arr 3 1 fI aM aK.length aO aK,arr 46 21 (fN 21) ad9 y6.1.length a4 b0,blk b4 63 p1.ar,fz w0 ν564] w∧(ν513.le ν564)∧(μ.ext w0.heap.size ν564)∧(B4 w0 ν564)∧Bd a2 k2 aK=some res) ?_ ?_
      ·skip
       refine wpIn_block ?_
       refine esr ?_
       replace h:=A5 h
       obtain ⟨a0,bQ,h⟩:=h
       obtain ⟨bS,bD,bJ⟩:=Ef aD bQ
       obtain ⟨a8,aA,bV,a9,aB,rfl,b1,b2⟩:=bJ
       refine rno 3 [.run [] (Instr.indexAt 24 (sv ad9 y6.1 a4) (iv a2)) (.pointer (some (An ad9 a2 21))),.run [] (Instr.loadAt 46 (.pointer (some (An ad9 a2 21)))) (.agg #[iv a0.Kind,.string a0.Name,iv a0.Time,.string a0.Sweep.Site.Name,iv a0.Sweep.Site.X,iv a0.Sweep.Site.Y,iv a0.Sweep.Site.Z,iv a0.Sweep.Site.Rose,iv a0.Sweep.Site.Gates,iv a0.Sweep.Site.Step,iv a0.Sweep.Site.Width,iv a0.Sweep.Tilt,iv a0.Sweep.Time,sv a8 a0.Sweep.Rays aA,iv a0.Field.Grid.X,iv a0.Field.Grid.Y,iv a0.Field.Grid.Size,iv a0.Field.Grid.Wide,iv a0.Field.Grid.High,sv a9 a0.Field.Vals aB,.string a0.Text])] 3 [(3,pb b4),(9,sv a5 a3 a6),(37,sv ad9 y6.1 a4),(38,iv (ln y6.1)),(39,iv a2),(41,iv a2),(43,.agg #[iv a0.Kind,.string a0.Name,iv a0.Time,.string a0.Sweep.Site.Name,iv a0.Sweep.Site.X,iv a0.Sweep.Site.Y,iv a0.Sweep.Site.Z,iv a0.Sweep.Site.Rose,iv a0.Sweep.Site.Gates,iv a0.Sweep.Site.Step,iv a0.Sweep.Site.Width,iv a0.Sweep.Tilt,iv a0.Sweep.Time,sv a8 a0.Sweep.Rays aA,iv a0.Field.Grid.X,iv a0.Field.Grid.Y,iv a0.Field.Grid.Size,iv a0.Field.Grid.Wide,iv a0.Field.Grid.High,sv a9 a0.Field.Vals aB,.string a0.Text])] hF (A0 (Bi (hS.arr (i:=1) rfl) kr (fun _=>bD)) (A0 (Gw (m:=21) (i:=a2) (us:=[iv a0.Kind,.string a0.Name,iv a0.Time,.string a0.Sweep.Site.Name,iv a0.Sweep.Site.X,iv a0.Sweep.Site.Y,iv a0.Sweep.Site.Z,iv a0.Sweep.Site.Rose,iv a0.Sweep.Site.Gates,iv a0.Sweep.Site.Step,iv a0.Sweep.Site.Width,iv a0.Sweep.Tilt,iv a0.Sweep.Time,sv a8 a0.Sweep.Rays aA,iv a0.Field.Grid.X,iv a0.Field.Grid.Y,iv a0.Field.Grid.Size,iv a0.Field.Grid.Wide,iv a0.Field.Grid.High,sv a9 a0.Field.Vals aB,.string a0.Text]) 0 (Fb 21) (fun _ hd=>((hS.at_ hd).arr (i:=1) rfl)) kr (fun _=>bD) ⟨rfl,rfl⟩) Ab)) fun a hF=>?_
       refine SK.wi (Bs (t:=46) (fun a7=>[(3,pb b4),(9,sv a5 a3 a6),(11,pb a7),(37,sv ad9 y6.1 a4),(38,iv (ln y6.1)),(39,iv a2),(41,iv a2),(43,.agg #[iv a0.Kind,.string a0.Name,iv a0.Time,.string a0.Sweep.Site.Name,iv a0.Sweep.Site.X,iv a0.Sweep.Site.Y,iv a0.Sweep.Site.Z,iv a0.Sweep.Site.Rose,iv a0.Sweep.Site.Gates,iv a0.Sweep.Site.Step,iv a0.Sweep.Site.Width,iv a0.Sweep.Tilt,iv a0.Sweep.Time,sv a8 a0.Sweep.Rays aA,iv a0.Field.Grid.X,iv a0.Field.Grid.Y,iv a0.Field.Grid.Size,iv a0.Field.Grid.Wide,iv a0.Field.Grid.High,sv a9 a0.Field.Vals aB,.string a0.Text])]) #[iv 0,.string ByteArray.empty,iv 0,.string ByteArray.empty,iv 0,iv 0,iv 0,iv 0,iv 0,iv 0,iv 0,iv 0,iv 0,.slice none 0 0,iv 0,iv 0,iv 0,iv 0,iv 0,.slice none 0 0,.string ByteArray.empty] hF hS kr ⟨kr⟩ kr (fun _=>⟨kr⟩) fun a7 w a hF hS=>?_)
       refine rn 1 5 [(3,pb b4),(9,sv a5 a3 a6),(10,iv a2),(11,pb a7),(37,sv ad9 y6.1 a4),(38,iv (ln y6.1)),(39,iv a2),(43,.agg #[iv a0.Kind,.string a0.Name,iv a0.Time,.string a0.Sweep.Site.Name,iv a0.Sweep.Site.X,iv a0.Sweep.Site.Y,iv a0.Sweep.Site.Z,iv a0.Sweep.Site.Rose,iv a0.Sweep.Site.Gates,iv a0.Sweep.Site.Step,iv a0.Sweep.Site.Width,iv a0.Sweep.Tilt,iv a0.Sweep.Time,sv a8 a0.Sweep.Rays aA,iv a0.Field.Grid.X,iv a0.Field.Grid.Y,iv a0.Field.Grid.Size,iv a0.Field.Grid.Wide,iv a0.Field.Grid.High,sv a9 a0.Field.Vals aB,.string a0.Text])] hF fun a hF=>?_
       refine SK.wi (Ao (t:=46) [(3,pb b4),(9,sv a5 a3 a6),(10,iv a2),(11,pb a7),(37,sv ad9 y6.1 a4),(38,iv (ln y6.1)),(39,iv a2)] 0 0 (.agg #[iv a0.Kind,.string a0.Name,iv a0.Time,.string a0.Sweep.Site.Name,iv a0.Sweep.Site.X,iv a0.Sweep.Site.Y,iv a0.Sweep.Site.Z,iv a0.Sweep.Site.Rose,iv a0.Sweep.Site.Gates,iv a0.Sweep.Site.Step,iv a0.Sweep.Site.Width,iv a0.Sweep.Tilt,iv a0.Sweep.Time,sv a8 a0.Sweep.Rays aA,iv a0.Field.Grid.X,iv a0.Field.Grid.Y,iv a0.Field.Grid.Size,iv a0.Field.Grid.Wide,iv a0.Field.Grid.High,sv a9 a0.Field.Vals aB,.string a0.Text]) #[iv a0.Kind,.string a0.Name,iv a0.Time,.string a0.Sweep.Site.Name,iv a0.Sweep.Site.X,iv a0.Sweep.Site.Y,iv a0.Sweep.Site.Z,iv a0.Sweep.Site.Rose,iv a0.Sweep.Site.Gates,iv a0.Sweep.Site.Step,iv a0.Sweep.Site.Width,iv a0.Sweep.Tilt,iv a0.Sweep.Time,sv a8 a0.Sweep.Rays aA,iv a0.Field.Grid.X,iv a0.Field.Grid.Y,iv a0.Field.Grid.Size,iv a0.Field.Grid.Wide,iv a0.Field.Grid.High,sv a9 a0.Field.Vals aB,.string a0.Text] hF hS rfl kr ⟨kr⟩ kr kr kr kr ⟨kr⟩ fun w a hF hS=>?_)
       refine wfn rfl ?_
       refine esr ?_
       refine rno 1 [.run [] (Instr.loadAt 46 (pb a7)) (.agg #[iv a0.Kind,.string a0.Name,iv a0.Time,.string a0.Sweep.Site.Name,iv a0.Sweep.Site.X,iv a0.Sweep.Site.Y,iv a0.Sweep.Site.Z,iv a0.Sweep.Site.Rose,iv a0.Sweep.Site.Gates,iv a0.Sweep.Site.Step,iv a0.Sweep.Site.Width,iv a0.Sweep.Tilt,iv a0.Sweep.Time,sv a8 a0.Sweep.Rays aA,iv a0.Field.Grid.X,iv a0.Field.Grid.Y,iv a0.Field.Grid.Size,iv a0.Field.Grid.Wide,iv a0.Field.Grid.High,sv a9 a0.Field.Vals aB,.string a0.Text])] 1 [(3,pb b4),(9,sv a5 a3 a6),(10,iv a2),(11,pb a7),(37,sv ad9 y6.1 a4),(38,iv (ln y6.1)),(39,iv a2),(44,.agg #[iv a0.Kind,.string a0.Name,iv a0.Time,.string a0.Sweep.Site.Name,iv a0.Sweep.Site.X,iv a0.Sweep.Site.Y,iv a0.Sweep.Site.Z,iv a0.Sweep.Site.Rose,iv a0.Sweep.Site.Gates,iv a0.Sweep.Site.Step,iv a0.Sweep.Site.Width,iv a0.Sweep.Tilt,iv a0.Sweep.Time,sv a8 a0.Sweep.Rays aA,iv a0.Field.Grid.X,iv a0.Field.Grid.Y,iv a0.Field.Grid.Size,iv a0.Field.Grid.Wide,iv a0.Field.Grid.High,sv a9 a0.Field.Vals aB,.string a0.Text])] hF (A0 (obN (us:=[iv a0.Kind,.string a0.Name,iv a0.Time,.string a0.Sweep.Site.Name,iv a0.Sweep.Site.X,iv a0.Sweep.Site.Y,iv a0.Sweep.Site.Z,iv a0.Sweep.Site.Rose,iv a0.Sweep.Site.Gates,iv a0.Sweep.Site.Step,iv a0.Sweep.Site.Width,iv a0.Sweep.Tilt,iv a0.Sweep.Time,sv a8 a0.Sweep.Rays aA,iv a0.Field.Grid.X,iv a0.Field.Grid.Y,iv a0.Field.Grid.Size,iv a0.Field.Grid.Wide,iv a0.Field.Grid.High,sv a9 a0.Field.Vals aB,.string a0.Text]) kr (fun _ hd=>((hS.at_ hd).blk (i:=0) rfl).cells rfl)) Ab) fun a hF=>?_
       refine SK.wi (Cb (fun bG=>[(3,pb b4),(9,sv a5 a3 a6),(10,iv a2),(11,pb a7),(37,sv ad9 y6.1 a4),(38,iv (ln y6.1)),(39,iv a2),(45,bG)]) hF kr ⟨kr⟩ (Qp a0 _ rfl ν513 w (hS.frz (i:=4) rfl hlow) b1 b2) (fun _=>⟨kr⟩) ?_)
       rintro bG w a ⟨ν584,bH,aE,hv_,aF,hQ⟩ hF
       try rw [hv_] at hF
       replace hext:=Frz.ext_trans hext (Frz.ext_mono aE hS.ext.size)
       obtain ⟨hlow,hS⟩:=hS.frzMerge (i:=4) rfl hlow aE hQ
       replace hA3:=hA3.mono aE.1
       replace aD:=All2.mono Rp46.mono aE.1 aD
       replace b1:=b1.mono Rp83.mono aE.1
       replace b2:=b2.mono aE.1
       replace aG:=Frz.le_trans aG aE.1
       replace aH:=Frz.le_trans aH aE.1
       replace aC:=Frz.le_trans aC aE.1
       refine rn 1 3 [(3,pb b4),(9,sv a5 a3 a6),(10,iv a2),(11,pb a7),(12,bH),(37,sv ad9 y6.1 a4),(38,iv (ln y6.1)),(39,iv a2)] hF fun a hF=>?_
       refine wfn rfl ?_
       refine Ay ?_
       rcases aI:(Fj a0) with _|a1|a1|a1
       ·replace h:=volume_thing.toNil aI h
        rw [aI] at aF
        obtain rfl:bH=.nilIface:=aF
        cases h
       ·replace h:=volume_thing.to112 aI h
        rw [aI] at aF
        obtain ⟨bT,rfl,bK⟩:=aF
        obtain ⟨aW,aY,bW,rfl,b3⟩:=bK
        refine Nl (obs:=[.run [] (Instr.loadAt 3 (pb b4)) (iv p1.Kind),.run [⟨49,false,(p1.Kind==0)⟩] (Instr.loadAt 3 (pb b4)) (iv p1.Kind),.run [⟨49,false,(p1.Kind==0)⟩] (Instr.loadAt 3 (pb a7)) (iv a0.Kind),.run [⟨56,true,(bif (p1.Kind==0) then true else (p1.Kind==a0.Kind))⟩] (Instr.loadAt 9 (.pointer (some ⟨b4,1,none⟩))) (.string p1.Name),.run [⟨56,true,(bif (p1.Kind==0) then true else (p1.Kind==a0.Kind))⟩] (Lx .eql 9 p1.Name (⟨#[]⟩:ByteArray)) (.bool (sEq p1.Name (⟨#[]⟩:ByteArray))),.run [⟨60,false,(sEq p1.Name (⟨#[]⟩:ByteArray))⟩,⟨56,true,(bif (p1.Kind==0) then true else (p1.Kind==a0.Kind))⟩] (Instr.loadAt 9 (.pointer (some ⟨b4,1,none⟩))) (.string p1.Name),.call [⟨60,false,(sEq p1.Name (⟨#[]⟩:ByteArray))⟩,⟨56,true,(bif (p1.Kind==0) then true else (p1.Kind==a0.Kind))⟩] 87 #[.agg #[.string a1.Sweep.Site.Name,iv a1.Sweep.Site.X,iv a1.Sweep.Site.Y,iv a1.Sweep.Site.Z,iv a1.Sweep.Site.Rose,iv a1.Sweep.Site.Gates,iv a1.Sweep.Site.Step,iv a1.Sweep.Site.Width,iv a1.Sweep.Tilt,iv a1.Sweep.Time,sv aW a1.Sweep.Rays aY]] (.string (Bm a1)),.run [⟨60,false,(sEq p1.Name (⟨#[]⟩:ByteArray))⟩,⟨56,true,(bif (p1.Kind==0) then true else (p1.Kind==a0.Kind))⟩] (Lx .eql 9 p1.Name (Bm a1)) (.bool (sEq p1.Name (Bm a1))),.call [⟨68,true,(bif (bif (p1.Kind==0) then true else (p1.Kind==a0.Kind)) then (bif (sEq p1.Name (⟨#[]⟩:ByteArray)) then true else (sEq p1.Name (Bm a1))) else false)⟩] 88 #[.agg #[.string a1.Sweep.Site.Name,iv a1.Sweep.Site.X,iv a1.Sweep.Site.Y,iv a1.Sweep.Site.Z,iv a1.Sweep.Site.Rose,iv a1.Sweep.Site.Gates,iv a1.Sweep.Site.Step,iv a1.Sweep.Site.Width,iv a1.Sweep.Tilt,iv a1.Sweep.Time,sv aW a1.Sweep.Rays aY]] (iv (Bn a1)),.run [⟨68,true,(bif (bif (p1.Kind==0) then true else (p1.Kind==a0.Kind)) then (bif (sEq p1.Name (⟨#[]⟩:ByteArray)) then true else (sEq p1.Name (Bm a1))) else false)⟩] (Instr.loadAt 3 (.pointer (some ⟨b4,2,none⟩))) (iv p1.From),.call [⟨75,true,(bif (bif (bif (p1.Kind==0) then true else (p1.Kind==a0.Kind)) then (bif (sEq p1.Name (⟨#[]⟩:ByteArray)) then true else (sEq p1.Name (Bm a1))) else false) then (decide ((Bn a1)≥p1.From)) else false)⟩] 88 #[.agg #[.string a1.Sweep.Site.Name,iv a1.Sweep.Site.X,iv a1.Sweep.Site.Y,iv a1.Sweep.Site.Z,iv a1.Sweep.Site.Rose,iv a1.Sweep.Site.Gates,iv a1.Sweep.Site.Step,iv a1.Sweep.Site.Width,iv a1.Sweep.Tilt,iv a1.Sweep.Time,sv aW a1.Sweep.Rays aY]] (iv (Bn a1)),.run [⟨75,true,(bif (bif (bif (p1.Kind==0) then true else (p1.Kind==a0.Kind)) then (bif (sEq p1.Name (⟨#[]⟩:ByteArray)) then true else (sEq p1.Name (Bm a1))) else false) then (decide ((Bn a1)≥p1.From)) else false)⟩] (Instr.loadAt 3 (.pointer (some ⟨b4,3,none⟩))) (iv p1.To)]) 36 [(3,pb b4),(9,sv a5 a3 a6),(10,iv a2),(37,sv ad9 y6.1 a4),(38,iv (ln y6.1)),(39,iv a2),(81,.bool (bif (bif (bif (bif (p1.Kind==0) then true else (p1.Kind==a0.Kind)) then (bif (sEq p1.Name (⟨#[]⟩:ByteArray)) then true else (sEq p1.Name (Bm a1))) else false) then (decide ((Bn a1)≥p1.From)) else false) then (decide ((Bn a1)≤p1.To)) else false))] kr hF kr (A0 (ob1 kr (fun _ hd=>(hS.later hd).cell (i:=3) (j:=0) rfl rfl)) (A0 (ob1 kr (fun _ hd=>(hS.later hd).cell (i:=3) (j:=0) rfl rfl)) (A0 (ob1 kr (fun _ hd=>(hS.later hd).cell (i:=0) (j:=0) rfl rfl)) (A0 (ob1 kr (fun _ hd=>(hS.later hd).cell (i:=3) (j:=1) rfl rfl)) (A0 Qh (A0 (ob1 kr (fun _ hd=>(hS.later hd).cell (i:=3) (j:=1) rfl rfl)) (A0 (show Ob.ok _ Ext _ _ from fun hk w2 hd=>Ny a1 _ rfl _ w2 (A7 w2) (b3.mono Rp83.mono (FrzAt.le_mem ((hS.later hd).frz (i:=4) rfl hlow)))) (A0 Qh (A0 (show Ob.ok _ Ext _ _ from fun hk w2 hd=>Ks a1 _ rfl _ w2 (A7 w2) (b3.mono Rp83.mono (FrzAt.le_mem ((hS.later hd).frz (i:=4) rfl hlow)))) (A0 (ob1 kr (fun _ hd=>(hS.later hd).cell (i:=3) (j:=2) rfl rfl)) (A0 (show Ob.ok _ Ext _ _ from fun hk w2 hd=>Ks a1 _ rfl _ w2 (A7 w2) (b3.mono Rp83.mono (FrzAt.le_mem ((hS.later hd).frz (i:=4) rfl hlow)))) (A0 (ob1 kr (fun _ hd=>(hS.later hd).cell (i:=3) (j:=3) rfl rfl)) Ab)))))))))))) ⟨kr⟩ fun a w hF hx=>?_
        replace hS:=hS.later hx
        refine wfn rfl ?_
        refine Ar hF rfl (fun hc=>?_) (fun hc=>?_)
        ·replace h:=Am h hc
         refine WI.region ?_
         refine rn 2 2 [(3,pb b4),(9,sv a5 a3 a6),(37,sv ad9 y6.1 a4),(38,iv (ln y6.1)),(39,iv a2),(82,sv a5 a3 a6),(83,iv a2)] hF fun a hF=>?_
         refine SK.wi (Fu (e:=3) (sz:=1) (f:=fI) (t:=51) (len:=1) (fun bA=>[(3,pb b4),(9,sv a5 a3 a6),(37,sv ad9 y6.1 a4),(38,iv (ln y6.1)),(39,iv a2),(82,sv a5 a3 a6),(84,sb bA 1)]) #[(0,iv a2)] #[iv a2] ([a2]) hF hS kr ⟨kr⟩ kr Et rfl rfl kr (fun _=>⟨kr⟩) fun bA w a hF hS=>?_)
         replace h:=A5 h
         obtain ⟨b6,bN,h⟩:=h
         refine SK.wi (Qq (t:=51) (ty:=51) (bytes:=8) (l:=a3) (l':=([a2])) (fun aP aS=>[(3,pb b4),(9,sv a5 a3 a6),(37,sv ad9 y6.1 a4),(38,iv (ln y6.1)),(39,iv a2),(85,sv aP b6 aS)]) 2 hF hS rfl kr ⟨kr⟩ kr (hS.arr (i:=0) rfl) (fun _ _=>rfl) bN (fun _ _=>⟨kr⟩) fun aP aS w a hF hS=>?_)
         refine rn 1 5 [(3,pb b4),(9,sv aP b6 aS),(37,sv ad9 y6.1 a4),(38,iv (ln y6.1)),(39,iv a2)] hF fun a hF=>?_
         refine WI.fin rfl (Ac<|A1<|?_)
         exact ⟨b6,ν584,aP,aS,hF.sub kr,St.pick [2,3,4,5] (by decide) hS,aC,hext,hlow,h⟩
        ·replace h:=Al h hc
         refine wpIn_skip (Ac<|A1<|?_)
         exact ⟨a3,ν584,a5,a6,hF.sub kr,St.pick [1,2,3,4] (by decide) hS,aC,hext,hlow,h⟩
       ·replace h:=volume_thing.to114 aI h
        rw [aI] at aF
        obtain ⟨bU,rfl,bL⟩:=aF
        obtain ⟨aX,aZ,rfl,b5⟩:=bL
        refine Nl (obs:=[.run [] (Instr.loadAt 3 (pb b4)) (iv p1.Kind),.run [⟨49,false,(p1.Kind==0)⟩] (Instr.loadAt 3 (pb b4)) (iv p1.Kind),.run [⟨49,false,(p1.Kind==0)⟩] (Instr.loadAt 3 (pb a7)) (iv a0.Kind),.run [⟨56,true,(bif (p1.Kind==0) then true else (p1.Kind==a0.Kind))⟩] (Instr.loadAt 9 (.pointer (some ⟨b4,1,none⟩))) (.string p1.Name),.run [⟨56,true,(bif (p1.Kind==0) then true else (p1.Kind==a0.Kind))⟩] (Lx .eql 9 p1.Name (⟨#[]⟩:ByteArray)) (.bool (sEq p1.Name (⟨#[]⟩:ByteArray))),.run [⟨60,false,(sEq p1.Name (⟨#[]⟩:ByteArray))⟩,⟨56,true,(bif (p1.Kind==0) then true else (p1.Kind==a0.Kind))⟩] (Instr.loadAt 9 (.pointer (some ⟨b4,1,none⟩))) (.string p1.Name),.call [⟨60,false,(sEq p1.Name (⟨#[]⟩:ByteArray))⟩,⟨56,true,(bif (p1.Kind==0) then true else (p1.Kind==a0.Kind))⟩] 101 #[.agg #[.string a1.key,iv a1.time,iv a1.Field.Grid.X,iv a1.Field.Grid.Y,iv a1.Field.Grid.Size,iv a1.Field.Grid.Wide,iv a1.Field.Grid.High,sv aX a1.Field.Vals aZ]] (.string (Bk a1)),.run [⟨60,false,(sEq p1.Name (⟨#[]⟩:ByteArray))⟩,⟨56,true,(bif (p1.Kind==0) then true else (p1.Kind==a0.Kind))⟩] (Lx .eql 9 p1.Name (Bk a1)) (.bool (sEq p1.Name (Bk a1))),.call [⟨68,true,(bif (bif (p1.Kind==0) then true else (p1.Kind==a0.Kind)) then (bif (sEq p1.Name (⟨#[]⟩:ByteArray)) then true else (sEq p1.Name (Bk a1))) else false)⟩] 102 #[.agg #[.string a1.key,iv a1.time,iv a1.Field.Grid.X,iv a1.Field.Grid.Y,iv a1.Field.Grid.Size,iv a1.Field.Grid.Wide,iv a1.Field.Grid.High,sv aX a1.Field.Vals aZ]] (iv (Bl a1)),.run [⟨68,true,(bif (bif (p1.Kind==0) then true else (p1.Kind==a0.Kind)) then (bif (sEq p1.Name (⟨#[]⟩:ByteArray)) then true else (sEq p1.Name (Bk a1))) else false)⟩] (Instr.loadAt 3 (.pointer (some ⟨b4,2,none⟩))) (iv p1.From),.call [⟨75,true,(bif (bif (bif (p1.Kind==0) then true else (p1.Kind==a0.Kind)) then (bif (sEq p1.Name (⟨#[]⟩:ByteArray)) then true else (sEq p1.Name (Bk a1))) else false) then (decide ((Bl a1)≥p1.From)) else false)⟩] 102 #[.agg #[.string a1.key,iv a1.time,iv a1.Field.Grid.X,iv a1.Field.Grid.Y,iv a1.Field.Grid.Size,iv a1.Field.Grid.Wide,iv a1.Field.Grid.High,sv aX a1.Field.Vals aZ]] (iv (Bl a1)),.run [⟨75,true,(bif (bif (bif (p1.Kind==0) then true else (p1.Kind==a0.Kind)) then (bif (sEq p1.Name (⟨#[]⟩:ByteArray)) then true else (sEq p1.Name (Bk a1))) else false) then (decide ((Bl a1)≥p1.From)) else false)⟩] (Instr.loadAt 3 (.pointer (some ⟨b4,3,none⟩))) (iv p1.To)]) 36 [(3,pb b4),(9,sv a5 a3 a6),(10,iv a2),(37,sv ad9 y6.1 a4),(38,iv (ln y6.1)),(39,iv a2),(81,.bool (bif (bif (bif (bif (p1.Kind==0) then true else (p1.Kind==a0.Kind)) then (bif (sEq p1.Name (⟨#[]⟩:ByteArray)) then true else (sEq p1.Name (Bk a1))) else false) then (decide ((Bl a1)≥p1.From)) else false) then (decide ((Bl a1)≤p1.To)) else false))] kr hF kr (A0 (ob1 kr (fun _ hd=>(hS.later hd).cell (i:=3) (j:=0) rfl rfl)) (A0 (ob1 kr (fun _ hd=>(hS.later hd).cell (i:=3) (j:=0) rfl rfl)) (A0 (ob1 kr (fun _ hd=>(hS.later hd).cell (i:=0) (j:=0) rfl rfl)) (A0 (ob1 kr (fun _ hd=>(hS.later hd).cell (i:=3) (j:=1) rfl rfl)) (A0 Qh (A0 (ob1 kr (fun _ hd=>(hS.later hd).cell (i:=3) (j:=1) rfl rfl)) (A0 (show Ob.ok _ Ext _ _ from fun hk w2 hd=>Nw a1 _ rfl _ w2 (A7 w2) (b5.mono (FrzAt.le_mem ((hS.later hd).frz (i:=4) rfl hlow)))) (A0 Qh (A0 (show Ob.ok _ Ext _ _ from fun hk w2 hd=>Kp a1 _ rfl _ w2 (A7 w2) (b5.mono (FrzAt.le_mem ((hS.later hd).frz (i:=4) rfl hlow)))) (A0 (ob1 kr (fun _ hd=>(hS.later hd).cell (i:=3) (j:=2) rfl rfl)) (A0 (show Ob.ok _ Ext _ _ from fun hk w2 hd=>Kp a1 _ rfl _ w2 (A7 w2) (b5.mono (FrzAt.le_mem ((hS.later hd).frz (i:=4) rfl hlow)))) (A0 (ob1 kr (fun _ hd=>(hS.later hd).cell (i:=3) (j:=3) rfl rfl)) Ab)))))))))))) ⟨kr⟩ fun a w hF hx=>?_
        replace hS:=hS.later hx
        refine wfn rfl ?_
        refine Ar hF rfl (fun hc=>?_) (fun hc=>?_)
        ·replace h:=Am h hc
         refine WI.region ?_
         refine rn 2 2 [(3,pb b4),(9,sv a5 a3 a6),(37,sv ad9 y6.1 a4),(38,iv (ln y6.1)),(39,iv a2),(82,sv a5 a3 a6),(83,iv a2)] hF fun a hF=>?_
         refine SK.wi (Fu (e:=3) (sz:=1) (f:=fI) (t:=51) (len:=1) (fun bB=>[(3,pb b4),(9,sv a5 a3 a6),(37,sv ad9 y6.1 a4),(38,iv (ln y6.1)),(39,iv a2),(82,sv a5 a3 a6),(84,sb bB 1)]) #[(0,iv a2)] #[iv a2] ([a2]) hF hS kr ⟨kr⟩ kr Et rfl rfl kr (fun _=>⟨kr⟩) fun bB w a hF hS=>?_)
         replace h:=A5 h
         obtain ⟨b7,bO,h⟩:=h
         refine SK.wi (Qq (t:=51) (ty:=51) (bytes:=8) (l:=a3) (l':=([a2])) (fun aQ aT=>[(3,pb b4),(9,sv a5 a3 a6),(37,sv ad9 y6.1 a4),(38,iv (ln y6.1)),(39,iv a2),(85,sv aQ b7 aT)]) 2 hF hS rfl kr ⟨kr⟩ kr (hS.arr (i:=0) rfl) (fun _ _=>rfl) bO (fun _ _=>⟨kr⟩) fun aQ aT w a hF hS=>?_)
         refine rn 1 5 [(3,pb b4),(9,sv aQ b7 aT),(37,sv ad9 y6.1 a4),(38,iv (ln y6.1)),(39,iv a2)] hF fun a hF=>?_
         refine WI.fin rfl (Ac<|A1<|?_)
         exact ⟨b7,ν584,aQ,aT,hF.sub kr,St.pick [2,3,4,5] (by decide) hS,aC,hext,hlow,h⟩
        ·replace h:=Al h hc
         refine wpIn_skip (Ac<|A1<|?_)
         exact ⟨a3,ν584,a5,a6,hF.sub kr,St.pick [1,2,3,4] (by decide) hS,aC,hext,hlow,h⟩
       ·replace h:=volume_thing.to116 aI h
        rw [aI] at aF
        obtain ⟨bI,rfl,bM⟩:=aF
        obtain rfl:bI=_:=bM
        refine Nl (obs:=[.run [] (Instr.loadAt 3 (pb b4)) (iv p1.Kind),.run [⟨49,false,(p1.Kind==0)⟩] (Instr.loadAt 3 (pb b4)) (iv p1.Kind),.run [⟨49,false,(p1.Kind==0)⟩] (Instr.loadAt 3 (pb a7)) (iv a0.Kind),.run [⟨56,true,(bif (p1.Kind==0) then true else (p1.Kind==a0.Kind))⟩] (Instr.loadAt 9 (.pointer (some ⟨b4,1,none⟩))) (.string p1.Name),.run [⟨56,true,(bif (p1.Kind==0) then true else (p1.Kind==a0.Kind))⟩] (Lx .eql 9 p1.Name (⟨#[]⟩:ByteArray)) (.bool (sEq p1.Name (⟨#[]⟩:ByteArray))),.run [⟨60,false,(sEq p1.Name (⟨#[]⟩:ByteArray))⟩,⟨56,true,(bif (p1.Kind==0) then true else (p1.Kind==a0.Kind))⟩] (Instr.loadAt 9 (.pointer (some ⟨b4,1,none⟩))) (.string p1.Name),.call [⟨60,false,(sEq p1.Name (⟨#[]⟩:ByteArray))⟩,⟨56,true,(bif (p1.Kind==0) then true else (p1.Kind==a0.Kind))⟩] 109 #[.agg #[iv a1.time,.string a1.text]] (.string (Bt a1)),.run [⟨60,false,(sEq p1.Name (⟨#[]⟩:ByteArray))⟩,⟨56,true,(bif (p1.Kind==0) then true else (p1.Kind==a0.Kind))⟩] (Lx .eql 9 p1.Name (Bt a1)) (.bool (sEq p1.Name (Bt a1))),.call [⟨68,true,(bif (bif (p1.Kind==0) then true else (p1.Kind==a0.Kind)) then (bif (sEq p1.Name (⟨#[]⟩:ByteArray)) then true else (sEq p1.Name (Bt a1))) else false)⟩] 110 #[.agg #[iv a1.time,.string a1.text]] (iv (Bu a1)),.run [⟨68,true,(bif (bif (p1.Kind==0) then true else (p1.Kind==a0.Kind)) then (bif (sEq p1.Name (⟨#[]⟩:ByteArray)) then true else (sEq p1.Name (Bt a1))) else false)⟩] (Instr.loadAt 3 (.pointer (some ⟨b4,2,none⟩))) (iv p1.From),.call [⟨75,true,(bif (bif (bif (p1.Kind==0) then true else (p1.Kind==a0.Kind)) then (bif (sEq p1.Name (⟨#[]⟩:ByteArray)) then true else (sEq p1.Name (Bt a1))) else false) then (decide ((Bu a1)≥p1.From)) else false)⟩] 110 #[.agg #[iv a1.time,.string a1.text]] (iv (Bu a1)),.run [⟨75,true,(bif (bif (bif (p1.Kind==0) then true else (p1.Kind==a0.Kind)) then (bif (sEq p1.Name (⟨#[]⟩:ByteArray)) then true else (sEq p1.Name (Bt a1))) else false) then (decide ((Bu a1)≥p1.From)) else false)⟩] (Instr.loadAt 3 (.pointer (some ⟨b4,3,none⟩))) (iv p1.To)]) 36 [(3,pb b4),(9,sv a5 a3 a6),(10,iv a2),(37,sv ad9 y6.1 a4),(38,iv (ln y6.1)),(39,iv a2),(81,.bool (bif (bif (bif (bif (p1.Kind==0) then true else (p1.Kind==a0.Kind)) then (bif (sEq p1.Name (⟨#[]⟩:ByteArray)) then true else (sEq p1.Name (Bt a1))) else false) then (decide ((Bu a1)≥p1.From)) else false) then (decide ((Bu a1)≤p1.To)) else false))] kr hF kr (A0 (ob1 kr (fun _ hd=>(hS.later hd).cell (i:=3) (j:=0) rfl rfl)) (A0 (ob1 kr (fun _ hd=>(hS.later hd).cell (i:=3) (j:=0) rfl rfl)) (A0 (ob1 kr (fun _ hd=>(hS.later hd).cell (i:=0) (j:=0) rfl rfl)) (A0 (ob1 kr (fun _ hd=>(hS.later hd).cell (i:=3) (j:=1) rfl rfl)) (A0 Qh (A0 (ob1 kr (fun _ hd=>(hS.later hd).cell (i:=3) (j:=1) rfl rfl)) (A0 (show Ob.ok _ Ext _ _ from fun hk w2 hd=>Pd a1 _ rfl _ w2 (A7 w2)) (A0 Qh (A0 (show Ob.ok _ Ext _ _ from fun hk w2 hd=>Kz a1 _ rfl _ w2 (A7 w2)) (A0 (ob1 kr (fun _ hd=>(hS.later hd).cell (i:=3) (j:=2) rfl rfl)) (A0 (show Ob.ok _ Ext _ _ from fun hk w2 hd=>Kz a1 _ rfl _ w2 (A7 w2)) (A0 (ob1 kr (fun _ hd=>(hS.later hd).cell (i:=3) (j:=3) rfl rfl)) Ab)))))))))))) ⟨kr⟩ fun a w hF hx=>?_
        replace hS:=hS.later hx
        refine wfn rfl ?_
        refine Ar hF rfl (fun hc=>?_) (fun hc=>?_)
        ·replace h:=Am h hc
         refine WI.region ?_
         refine rn 2 2 [(3,pb b4),(9,sv a5 a3 a6),(37,sv ad9 y6.1 a4),(38,iv (ln y6.1)),(39,iv a2),(82,sv a5 a3 a6),(83,iv a2)] hF fun a hF=>?_
         refine SK.wi (Fu (e:=3) (sz:=1) (f:=fI) (t:=51) (len:=1) (fun bC=>[(3,pb b4),(9,sv a5 a3 a6),(37,sv ad9 y6.1 a4),(38,iv (ln y6.1)),(39,iv a2),(82,sv a5 a3 a6),(84,sb bC 1)]) #[(0,iv a2)] #[iv a2] ([a2]) hF hS kr ⟨kr⟩ kr Et rfl rfl kr (fun _=>⟨kr⟩) fun bC w a hF hS=>?_)
         replace h:=A5 h
         obtain ⟨b8,bP,h⟩:=h
         refine SK.wi (Qq (t:=51) (ty:=51) (bytes:=8) (l:=a3) (l':=([a2])) (fun aR aU=>[(3,pb b4),(9,sv a5 a3 a6),(37,sv ad9 y6.1 a4),(38,iv (ln y6.1)),(39,iv a2),(85,sv aR b8 aU)]) 2 hF hS rfl kr ⟨kr⟩ kr (hS.arr (i:=0) rfl) (fun _ _=>rfl) bP (fun _ _=>⟨kr⟩) fun aR aU w a hF hS=>?_)
         refine rn 1 5 [(3,pb b4),(9,sv aR b8 aU),(37,sv ad9 y6.1 a4),(38,iv (ln y6.1)),(39,iv a2)] hF fun a hF=>?_
         refine WI.fin rfl (Ac<|A1<|?_)
         exact ⟨b8,ν584,aR,aU,hF.sub kr,St.pick [2,3,4,5] (by decide) hS,aC,hext,hlow,h⟩
        ·replace h:=Al h hc
         refine wpIn_skip (Ac<|A1<|?_)
         exact ⟨a3,ν584,a5,a6,hF.sub kr,St.pick [1,2,3,4] (by decide) hS,aC,hext,hlow,h⟩
      clear aC
      rintro a w ⟨aK,ν564,aM,aO,hF,hS,aV,hext,hlow,h⟩
      replace hA3:=hA3.mono aV
      replace aD:=All2.mono Rp46.mono aV aD
      replace aG:=Frz.le_trans aG aV
      replace aH:=Frz.le_trans aH aV
      rw [Bd] at h
      refine WI.region ?_
      replace h:=A5 h
      obtain ⟨b9,bR,h⟩:=h
      refine rno 2 [.run [] (binOp .add 3 (iv a2) (iv 1)) (iv b9)] 2 [(3,pb b4),(9,sv aM aK aO),(37,sv ad9 y6.1 a4),(38,iv (ln y6.1)),(39,iv b9)] hF (A0 (Av (fun _=>bR)) Ab) fun a hF=>?_
      refine wfn rfl ?_
      rw [hk2] at h
      exact ⟨nk2,Nat.lt_succ_self _,b9,aK,ν564,aM,aO,hF.sub kr,St.pick [0,1,2,3] (by decide) hS,aH,hext,hlow,h⟩
     ·replace h:=Al h hc
      refine wpIn_exit (Ad<|Ad<|B6<|A1 ?_)
      exact ⟨a3,ν513,a5,a6,hF.sub kr,St.pick [0,1,2,3] (by decide) hS,aG,hext,hlow,h⟩
    clear aG
    rintro a w ⟨aJ,ν311,aL,aN,hF,hS,bF,hext,hlow,h⟩
    replace hA3:=hA3.mono bF
    replace aD:=All2.mono Rp46.mono bF aD
    rw [Jt] at h
    refine esr ?_
    refine rn 3 3 [(4,sv aL aJ aN),(5,iv 0)] hF fun a hF=>?_
    refine wfn rfl ?_
    refine wpIn_ret (Ah [.tmp 4,.tmp 5] [sv aL aJ aN,iv 0] hF rfl ⟨rfl,rfl,trivial⟩ ?_)
    have hr_:=Option.some.inj h
    subst hr_
    exact ⟨_,rfl,_,_,rfl,St.pick [0] (by decide) hS⟩
end Go.Proofs.Ytifbomimeodibaa
