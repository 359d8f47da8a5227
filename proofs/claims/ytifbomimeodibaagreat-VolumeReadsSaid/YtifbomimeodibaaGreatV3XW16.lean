import Derived.Test.YtifbomimeodibaaGreatV3XD
import Derived.Test.YtifbomimeodibaaGreatProg
import Derived.Test.YtifbomimeodibaaGreatV3XW0
import Derived.Test.YtifbomimeodibaaGreatV3XW14
import Derived.Test.YtifbomimeodibaaGreatV3XW15
namespace Go.Proofs.YtifbomimeodibaaGreat
open Go Go.RowKit Go.Eng
set_option maxRecDepth 10000
set_option maxHeartbeats 4000000
set_option linter.unusedVariables false
set_option linter.unusedSimpArgs false
theorem Sq (F:Nat) (p0:(List volume_Item)) (res:((List Int)×Int)) (h:P8 F p0=some res) (μ:Frz) (w0:World) (hm:FrzAt μ w0) {ad1:Option Addr} {cap2:Nat} {css3:List (List Value)} (hA4:ArrQ μ 21 Rp48 ad1 cap2 css3 p0):Bu Tryz.prog 21 #[sv ad1 p0 cap2] w0 (fun e w=>∃zad0 zcap0,e=(.tuple #[sv zad0 res.1 zcap0,iv res.2])∧St w0 [arrT 5 1 (fK .u8) zad0 res.1.length zcap0 res.1] w):=by
 obtain ⟨hlow,hS⟩:=hm.init
 have hext:=Frz.ext_refl w0.heap.size μ
 rw [P8] at h
 refine Ah Tryz.func21 rfl 36 [(0,sv ad1 p0 cap2)] rfl rfl kr fun a w hw hF=>?_
 replace hS:=hS.cast hw
 clear hw
 refine qnB [] hF fun a hF=>?_
 refine Ar ?_
 refine qnB [(11,.bool (decide ((ln p0)>1000)))] hF fun a hF=>?_
 refine Ai hF rfl (fun hc=>?_) (fun hc=>?_)
 ·replace h:=Ag h hc
  refine rnB [(2,.slice none 0 0),(3,iv 9)] hF fun a hF=>?_
  refine wpIn_ret (A5<|Ab [.tmp 2,.tmp 3] [.slice none 0 0,iv 9] hF rfl ⟨rfl,rfl,trivial⟩ ?_)
  obtain rfl:=Ao h
  replace hS:=hS.nilT 5 1 (fK .u8)
  exact ⟨_,rfl,_,_,rfl,St.pick [0] (by decide) hS⟩
 ·replace h:=Af h hc
  refine wpIn_skip (A0 ?_)
  refine esr ?_
  refine SK.wi (G3 (e:=5) (sz:=1) (f:=(fK .u8)) (t:=22) (len:=4) (fun b5=>[(0,sv ad1 p0 cap2),(12,sb b5 4)]) #[(0,.int .u8 82),(1,.int .u8 86),(2,.int .u8 70),(3,.int .u8 49)] #[.int .u8 82,.int .u8 86,.int .u8 70,.int .u8 49] ([82,86,70,49]) hF hS kr ⟨kr⟩ kr (Bc .u8) rfl rfl kr (fun _=>⟨kr⟩) fun b5 w a hF hS=>?_)
  replace hS:St w0 [arrT 5 1 (fK .u8) (some ⟨b5,0,none⟩) ([82,86,70,49]).length 4 ([82,86,70,49]),fz w0 μ] w:=St.toT hS
  refine SK.wi (Qy (src:=22) [(0,sv ad1 p0 cap2),(13,sb b5 4)] 0 hF hS rfl (by decide) kr ⟨kr⟩ kr ⟨kr⟩ fun w a hF hS=>?_)
  refine rn 1 3 [(0,sv ad1 p0 cap2),(4,sb b5 4)] hF fun a hF=>?_
  refine wfn rfl ?_
  refine Dg (fun a w=>∃(a2:(List Int)) (a8:Option Addr) (aA:Nat),Fr 36 [] [(4,sv a8 a2 aA)] a∧St w0 [arrT 5 1 (fK .u8) a8 a2.length aA a2,fz w0 μ] w∧Lr a2=some res) ?_ ?_
  ·skip
   refine qnB [(14,sv ad1 p0 cap2),(15,iv (ln p0)),(16,iv 0)] hF fun a hF=>?_
   refine wpIn_block ?_
   refine Cq (fun n_ a w=>∃(a3:Int) (a1:(List Int)) (a5:Option Addr) (a6:Nat),Fr 36 [] [(4,sv a5 a1 a6),(14,sv ad1 p0 cap2),(15,iv (ln p0)),(16,iv a3)] a∧St w0 [arrT 5 1 (fK .u8) a5 a1.length a6 a1,fz w0 μ] w∧Jq F p0 n_ a3 a1=some res) F ⟨0,[82,86,70,49],(some ⟨b5,0,none⟩),4,hF.sub kr,St.pick [0,1] (by decide) hS,h⟩ ?_
   rintro nk2 a w ⟨a3,a1,a5,a6,hF,hS,h⟩
   rcases nk2 with _|nk2
   ·cases (show (none:Option ((List Int)×Int))=some res from h)
   obtain ⟨k2,hk2⟩:∃k,k=Jq F p0 nk2:=⟨_,rfl⟩
   replace h:Lq F p0 k2 a3 a1=some res:=by rw [hk2];exact h
   rw [Lq] at h
   refine qnB [(17,.bool (decide (a3<(ln p0))))] hF fun a hF=>?_
   refine Ar ?_
   refine Ai hF rfl (fun hc=>?_) (fun hc=>?_)
   ·replace h:=Ag h hc
    refine wpIn_skip (A0 ?_)
    refine Ar ?_
    refine wpIn_block ?_
    refine esr ?_
    obtain ⟨a0,aQ,h⟩:=A1 h
    obtain ⟨aT,aJ,aO⟩:=Dq hA4.2 aQ
    obtain ⟨aB,aD,aU,aC,aE,rfl,aM,aN⟩:=aO
    refine qo 2 2 [(19,.agg #[iv a0.Kind,.string a0.Name,iv a0.Time,.string a0.Sweep.Site.Name,iv a0.Sweep.Site.X,iv a0.Sweep.Site.Y,iv a0.Sweep.Site.Z,iv a0.Sweep.Site.Rose,iv a0.Sweep.Site.Gates,iv a0.Sweep.Site.Step,iv a0.Sweep.Site.Width,iv a0.Sweep.Tilt,iv a0.Sweep.Time,sv aB a0.Sweep.Rays aD,iv a0.Field.Grid.X,iv a0.Field.Grid.Y,iv a0.Field.Grid.Size,iv a0.Field.Grid.Wide,iv a0.Field.Grid.High,sv aC a0.Field.Vals aE,.string a0.Text])] hF (oI 24 (hA4.at (hS.frz (i:=1) rfl hlow)) aJ<|oG 48 0 21 (Eg 21) (fun _ hd=>(hA4.at ((hS.at_ hd).frz (i:=1) rfl hlow))) aJ<|A9) fun a hF=>?_
    refine SK.wi (qA 48 #[iv 0,.string ByteArray.empty,iv 0,.string ByteArray.empty,iv 0,iv 0,iv 0,iv 0,iv 0,iv 0,iv 0,iv 0,iv 0,.slice none 0 0,iv 0,iv 0,iv 0,iv 0,iv 0,.slice none 0 0,.string ByteArray.empty] (fun aH=>[(6,pb aH)]) hF hS fun aH w a hF hS=>?_)
    refine SK.wi (qS 48 0 0 (.agg #[iv a0.Kind,.string a0.Name,iv a0.Time,.string a0.Sweep.Site.Name,iv a0.Sweep.Site.X,iv a0.Sweep.Site.Y,iv a0.Sweep.Site.Z,iv a0.Sweep.Site.Rose,iv a0.Sweep.Site.Gates,iv a0.Sweep.Site.Step,iv a0.Sweep.Site.Width,iv a0.Sweep.Tilt,iv a0.Sweep.Time,sv aB a0.Sweep.Rays aD,iv a0.Field.Grid.X,iv a0.Field.Grid.Y,iv a0.Field.Grid.Size,iv a0.Field.Grid.Wide,iv a0.Field.Grid.High,sv aC a0.Field.Vals aE,.string a0.Text]) #[iv a0.Kind,.string a0.Name,iv a0.Time,.string a0.Sweep.Site.Name,iv a0.Sweep.Site.X,iv a0.Sweep.Site.Y,iv a0.Sweep.Site.Z,iv a0.Sweep.Site.Rose,iv a0.Sweep.Site.Gates,iv a0.Sweep.Site.Step,iv a0.Sweep.Site.Width,iv a0.Sweep.Tilt,iv a0.Sweep.Time,sv aB a0.Sweep.Rays aD,iv a0.Field.Grid.X,iv a0.Field.Grid.Y,iv a0.Field.Grid.Size,iv a0.Field.Grid.Wide,iv a0.Field.Grid.High,sv aC a0.Field.Vals aE,.string a0.Text] hF hS rfl fun w a hF hS=>?_)
    refine wfn rfl ?_
    refine esr ?_
    refine qo 1 1 [(21,.agg #[iv a0.Kind,.string a0.Name,iv a0.Time,.string a0.Sweep.Site.Name,iv a0.Sweep.Site.X,iv a0.Sweep.Site.Y,iv a0.Sweep.Site.Z,iv a0.Sweep.Site.Rose,iv a0.Sweep.Site.Gates,iv a0.Sweep.Site.Step,iv a0.Sweep.Site.Width,iv a0.Sweep.Tilt,iv a0.Sweep.Time,sv aB a0.Sweep.Rays aD,iv a0.Field.Grid.X,iv a0.Field.Grid.Y,iv a0.Field.Grid.Size,iv a0.Field.Grid.Wide,iv a0.Field.Grid.High,sv aC a0.Field.Vals aE,.string a0.Text])] hF (oN 48 0 0 21 hS.i rfl<|A9) fun a hF=>?_
    obtain ⟨a4,aS,h⟩:=A1 h
    refine SK.wi (qR (fun aK=>[(22,aK)]) hF (Q9 F _ _ aS (Fs w) w (Ae w) (aM.mono Rp87.mono (FrzAt.le_mem (hS.frz (i:=2) rfl hlow))) (aN.mono (FrzAt.le_mem (hS.frz (i:=2) rfl hlow)))) ?_)
    rintro aK w a ⟨aG,aI,rfl,hQ⟩ hF
    replace hS:=hS.madeL hQ
    refine qn 5 7 [(7,sv aG a4.1 aI),(8,iv a4.2)] hF fun a hF=>?_
    refine wfn rfl ?_
    refine Ar ?_
    refine qnB [(26,.bool (a4.2 != 0))] hF fun a hF=>?_
    refine Ai hF rfl (fun hc=>?_) (fun hc=>?_)
    ·replace h:=Ag h hc
     refine rnB [(2,.slice none 0 0),(3,iv a4.2)] hF fun a hF=>?_
     refine wpIn_ret (A5<|Al<|A5<|A5<|Al<|A5<|Ab [.tmp 2,.tmp 3] [.slice none 0 0,iv a4.2] hF rfl ⟨rfl,rfl,trivial⟩ ?_)
     obtain rfl:=Ao h
     replace hS:=hS.nilT 5 1 (fK .u8)
     exact ⟨_,rfl,_,_,rfl,St.pick [0] (by decide) hS⟩
    ·replace h:=Af h hc
     refine wpIn_skip (A0 ?_)
     refine WI.region ?_
     refine qn 2 2 [(28,sv a5 a1 a6),(29,sv aG a4.1 aI)] hF fun a hF=>?_
     obtain ⟨aF,aP,h⟩:=A1 h
     refine SK.wi (T2 (t:=22) (ty:=22) (bytes:=1) (l:=a1) (l':=a4.1) (fun a7 a9=>[(4,sv a5 a1 a6),(14,sv ad1 p0 cap2),(15,iv (ln p0)),(16,iv a3),(30,sv a7 aF a9)]) 2 hF hS rfl kr ⟨kr⟩ kr (hS.arr (i:=0) rfl) (fun _ _=>rfl) aP (fun _ _=>⟨kr⟩) fun a7 a9 w a hF hS=>?_)
     refine rn 1 4 [(4,sv a7 aF a9),(14,sv ad1 p0 cap2),(15,iv (ln p0)),(16,iv a3)] hF fun a hF=>?_
     refine WI.fin rfl (Aa<|A0<|?_)
     refine WI.region ?_
     obtain ⟨aL,aR,h⟩:=A1 h
     refine ro 2 2 [(4,sv a7 aF a9),(14,sv ad1 p0 cap2),(15,iv (ln p0)),(16,iv aL)] hF (oA 3 aR<|A9) fun a hF=>?_
     refine wfn rfl ?_
     rw [hk2] at h
     exact ⟨nk2,Nat.lt_succ_self _,aL,aF,a7,a9,hF.sub kr,St.pick [2,3] (by decide) hS,h⟩
   ·replace h:=Af h hc
    refine wpIn_exit (A7<|A7<|Av<|A0 ?_)
    exact ⟨a1,a5,a6,hF.sub kr,St.pick [0,1] (by decide) hS,h⟩
  rintro a w ⟨a2,a8,aA,hF,hS,h⟩
  rw [Lr] at h
  refine Ar ?_
  refine qnB [(34,.bool (decide ((ln a2)>16777216)))] hF fun a hF=>?_
  refine Ai hF rfl (fun hc=>?_) (fun hc=>?_)
  ·replace h:=Ag h hc
   refine rnB [(2,.slice none 0 0),(3,iv 8)] hF fun a hF=>?_
   refine wpIn_ret (A5<|Ab [.tmp 2,.tmp 3] [.slice none 0 0,iv 8] hF rfl ⟨rfl,rfl,trivial⟩ ?_)
   obtain rfl:=Ao h
   replace hS:=hS.nilT 5 1 (fK .u8)
   exact ⟨_,rfl,_,_,rfl,St.pick [0] (by decide) hS⟩
  ·replace h:=Af h hc
   refine wpIn_skip (A0 ?_)
   refine rnB [(2,sv a8 a2 aA),(3,iv 0)] hF fun a hF=>?_
   refine wpIn_ret (Ab [.tmp 2,.tmp 3] [sv a8 a2 aA,iv 0] hF rfl ⟨rfl,rfl,trivial⟩ ?_)
   obtain rfl:=Ao h
   exact ⟨_,rfl,_,_,rfl,St.pick [0] (by decide) hS⟩
theorem S7 (F:Nat) (p0:(List Int)) (res:((List ref12_Item)×Int×Int)) (h:Hm F p0=some res) (μ:Frz) (w0:World) (hm:FrzAt μ w0) {ad1:Option Addr} {cap2:Nat} (hA3:ArrM μ 1 (fK .u8) ad1 cap2 p0):Bu Tryz.prog 14 #[sv ad1 p0 cap2] w0 (fun e w=>∃(ν_:Frz) (zad0:Option Addr) (zcap0:Nat) (zcss0:List (List Value)),μ.ext w0.heap.size ν_∧e=(.tuple #[sv zad0 res.1 zcap0,iv res.2.1,iv res.2.2])∧All2 (Rp49 ν_) zcss0 res.1∧St w0 [fz w0 ν_,arr 49 21 (fN 21) zad0 res.1.length zcap0 zcss0] w):=by
 obtain ⟨hlow,hS⟩:=hm.init
 have hext:=Frz.ext_refl w0.heap.size μ
 rw [Hm] at h
 refine Ah Tryz.func14 rfl 47 [(0,sv ad1 p0 cap2)] rfl rfl kr fun a w hw hF=>?_
 replace hS:=hS.cast hw
 clear hw
 refine qnB [] hF fun a hF=>?_
 refine Ar ?_
 refine qnB [(13,.bool (decide ((ln p0)>16777216)))] hF fun a hF=>?_
 refine Ai hF rfl (fun hc=>?_) (fun hc=>?_)
 ·replace h:=Ag h hc
  refine rnB [(2,.slice none 0 0),(3,iv 0),(4,iv 8)] hF fun a hF=>?_
  refine wpIn_ret (A5<|Ab [.tmp 2,.tmp 3,.tmp 4] [.slice none 0 0,iv 0,iv 8] hF rfl ⟨rfl,rfl,rfl,trivial⟩ ?_)
  obtain rfl:=Ao h
  replace hS:=hS.nilarr 49 21 (fN 21)
  exact ⟨_,rfl,μ,_,_,_,hext,rfl,All2.nil,St.pick [1,0] (by decide) hS⟩
 ·replace h:=Af h hc
  refine wpIn_skip (A0 ?_)
  refine qnB [(5,.slice none 0 0)] hF fun a hF=>?_
  refine qnB [(6,iv 0)] hF fun a hF=>?_
  have aE:=Frz.le_refl μ
  refine Dg (fun a w=>∃(aB:(List ref12_Item)) (aK:Int) (ν144:Frz) (aG:Option Addr) (aH:Nat) (aU:List (List Value)),Fr 47 [] [(5,sv aG aB aH),(6,iv aK)] a∧St w0 [arr 49 21 (fN 21) aG aB.length aH aU,fz w0 ν144] w∧(All2 (Rp49 ν144) aU aB)∧(μ.le ν144)∧(μ.ext w0.heap.size ν144)∧(Ay w0 ν144)∧Gx aB aK=some res) ?_ ?_
  ·skip
   refine esr ?_
   obtain ⟨b4,bF,h⟩:=A1 h
   refine qx 3 3 [(7,iv b4)] hF (oC (fun w2 hd=>P6 F p0 0 _ bF _ w2 (Ae w2) (hA3.mono (FrzAt.le_mem ((hS.later hd).frz (i:=0) rfl hlow))))<|A9) fun a w hF hx=>?_
   replace hS:=hS.later hx
   refine wfn rfl ?_
   refine wpIn_block ?_
   have aY:=Frz.le_refl μ
   replace hS:=hS.nilarr 49 21 (fN 21)
   refine Cq (fun n_ a w=>∃(a1:(List ref12_Item)) (a9:Int) (aL:Int) (ν243:Frz) (a6:Option Addr) (a7:Nat) (aA:List (List Value)),Fr 47 [] [(0,sv ad1 p0 cap2),(5,sv a6 a1 a7),(6,iv a9),(7,iv aL)] a∧St w0 [arr 49 21 (fN 21) a6 a1.length a7 aA,fz w0 ν243] w∧(All2 (Rp49 ν243) aA a1)∧(μ.le ν243)∧(μ.ext w0.heap.size ν243)∧(Ay w0 ν243)∧Ep F p0 n_ a1 a9 aL=some res) F ⟨[],0,b4,μ,none,0,[],hF.sub kr,St.pick [0,1] (by decide) hS,All2.nil,aY,hext,hlow,h⟩ ?_
   clear aY
   rintro nk2 a w ⟨a1,a9,aL,ν243,a6,a7,aA,hF,hS,aJ,aI,hext,hlow,h⟩
   rcases nk2 with _|nk2
   ·cases (show (none:Option ((List ref12_Item)×Int×Int))=some res from h)
   replace hA3:=hA3.mono aI
   replace aE:=Frz.le_trans aE aI
   obtain ⟨k2,hk2⟩:∃k,k=Ep F p0 nk2:=⟨_,rfl⟩
   replace h:Gw F p0 k2 a1 a9 aL=some res:=by rw [hk2];exact h
   rw [Gw] at h
   refine Ar ?_
   refine qnB [(19,.bool (decide (aL<(ln p0))))] hF fun a hF=>?_
   refine Ai hF rfl (fun hc=>?_) (fun hc=>?_)
   ·replace h:=Ag h hc
    refine wpIn_skip (A0 ?_)
    refine wpIn_block ?_
    refine esr ?_
    obtain ⟨bI,bC,h⟩:=A1 h
    obtain ⟨a8,bG,h⟩:=A1 h
    refine qx 5 5 [(8,iv a8)] hF (oA 3 bC<|oC (fun w2 hd=>P6 F p0 bI _ bG _ w2 (Ae w2) (hA3.mono (FrzAt.le_mem ((hS.later hd).frz (i:=1) rfl hlow))))<|A9) fun a w hF hx=>?_
    replace hS:=hS.later hx
    refine wfn rfl ?_
    refine esr ?_
    obtain ⟨aD,bD,h⟩:=A1 h
    obtain ⟨aW,aZ,h⟩:=A1 h
    have aV:ArrM ν243 1 (fK .u8) (Aq ad1 cap2 aD.toNat 1) (cap2-aD.toNat) aW:=fun w_ hw_=>(hA3 w_ hw_).cutD (Bc .u8) aZ
    refine ro 5 5 [(0,sv ad1 p0 cap2),(5,sv a6 a1 a7),(6,iv a9),(8,iv a8),(29,.slice (Aq ad1 cap2 aD.toNat 1) aW.length (cap2-aD.toNat))] hF (oA 3 bD<|oX (.run [] (Instr.sliceAt 22 (sv ad1 p0 cap2) (some (iv aD)) (some (iv a8)) none) (.slice (Aq ad1 cap2 aD.toNat 1) aW.length (cap2-aD.toNat))) (Rs kr (hA3 _ (hS.frz (i:=1) rfl hlow)) (fun _=>aZ))<|A9) fun a hF=>?_
    obtain ⟨a0,bH,h⟩:=A1 h
    refine SK.wi (qR (fun b2=>[(30,b2)]) hF (Q2 F _ _ bH ν243 w (hS.frz (i:=1) rfl hlow) aV) ?_)
    rintro b2 w a ⟨ν260,a2,a4,b5,a3,a5,aC,rfl,b6,b7,hQ⟩ hF
    replace hext:=Frz.ext_trans hext (Frz.ext_mono aC hS.ext.size)
    obtain ⟨hlow,hS⟩:=hS.frzMerge (i:=1) rfl hlow aC hQ
    replace hA3:=hA3.mono aC.1
    replace aJ:=All2.mono Rp49.mono aC.1 aJ
    replace aV:=aV.mono aC.1
    replace aE:=Frz.le_trans aE aC.1
    replace aI:=Frz.le_trans aI aC.1
    refine qn 3 9 [(31,.agg #[iv a0.1.Kind,.string a0.1.Name,iv a0.1.Time,.string a0.1.Sweep.Site.Name,iv a0.1.Sweep.Site.X,iv a0.1.Sweep.Site.Y,iv a0.1.Sweep.Site.Z,iv a0.1.Sweep.Site.Rose,iv a0.1.Sweep.Site.Gates,iv a0.1.Sweep.Site.Step,iv a0.1.Sweep.Site.Width,iv a0.1.Sweep.Tilt,iv a0.1.Sweep.Time,sv a2 a0.1.Sweep.Rays a4,iv a0.1.Field.Grid.X,iv a0.1.Field.Grid.Y,iv a0.1.Field.Grid.Size,iv a0.1.Field.Grid.Wide,iv a0.1.Field.Grid.High,sv a3 a0.1.Field.Vals a5,.string a0.1.Text]),(32,iv a0.2)] hF fun a hF=>?_
    refine SK.wi (qA 49 #[iv 0,.string ByteArray.empty,iv 0,.string ByteArray.empty,iv 0,iv 0,iv 0,iv 0,iv 0,iv 0,iv 0,iv 0,iv 0,.slice none 0 0,iv 0,iv 0,iv 0,iv 0,iv 0,.slice none 0 0,.string ByteArray.empty] (fun aT=>[(9,pb aT)]) hF hS fun aT w a hF hS=>?_)
    refine SK.wi (qS 49 0 0 (.agg #[iv a0.1.Kind,.string a0.1.Name,iv a0.1.Time,.string a0.1.Sweep.Site.Name,iv a0.1.Sweep.Site.X,iv a0.1.Sweep.Site.Y,iv a0.1.Sweep.Site.Z,iv a0.1.Sweep.Site.Rose,iv a0.1.Sweep.Site.Gates,iv a0.1.Sweep.Site.Step,iv a0.1.Sweep.Site.Width,iv a0.1.Sweep.Tilt,iv a0.1.Sweep.Time,sv a2 a0.1.Sweep.Rays a4,iv a0.1.Field.Grid.X,iv a0.1.Field.Grid.Y,iv a0.1.Field.Grid.Size,iv a0.1.Field.Grid.Wide,iv a0.1.Field.Grid.High,sv a3 a0.1.Field.Vals a5,.string a0.1.Text]) #[iv a0.1.Kind,.string a0.1.Name,iv a0.1.Time,.string a0.1.Sweep.Site.Name,iv a0.1.Sweep.Site.X,iv a0.1.Sweep.Site.Y,iv a0.1.Sweep.Site.Z,iv a0.1.Sweep.Site.Rose,iv a0.1.Sweep.Site.Gates,iv a0.1.Sweep.Site.Step,iv a0.1.Sweep.Site.Width,iv a0.1.Sweep.Tilt,iv a0.1.Sweep.Time,sv a2 a0.1.Sweep.Rays a4,iv a0.1.Field.Grid.X,iv a0.1.Field.Grid.Y,iv a0.1.Field.Grid.Size,iv a0.1.Field.Grid.Wide,iv a0.1.Field.Grid.High,sv a3 a0.1.Field.Vals a5,.string a0.1.Text] hF hS rfl fun w a hF hS=>?_)
    refine qn 1 12 [(10,iv a0.2)] hF fun a hF=>?_
    refine wfn rfl ?_
    refine Dg (fun a w=>∃(aF:(List ref12_Item)) (aS:Int) (aM:Option Addr) (aO:Nat) (aQ:List (List Value)),Fr 47 [] [(0,sv ad1 p0 cap2),(5,sv aM aF aO),(6,iv aS),(8,iv a8)] a∧St w0 [arr 49 21 (fN 21) aM aF.length aO aQ,blk aT 49 #[iv a0.1.Kind,.string a0.1.Name,iv a0.1.Time,.string a0.1.Sweep.Site.Name,iv a0.1.Sweep.Site.X,iv a0.1.Sweep.Site.Y,iv a0.1.Sweep.Site.Z,iv a0.1.Sweep.Site.Rose,iv a0.1.Sweep.Site.Gates,iv a0.1.Sweep.Site.Step,iv a0.1.Sweep.Site.Width,iv a0.1.Sweep.Tilt,iv a0.1.Sweep.Time,sv a2 a0.1.Sweep.Rays a4,iv a0.1.Field.Grid.X,iv a0.1.Field.Grid.Y,iv a0.1.Field.Grid.Size,iv a0.1.Field.Grid.Wide,iv a0.1.Field.Grid.High,sv a3 a0.1.Field.Vals a5,.string a0.1.Text],fz w0 ν260] w∧(All2 (Rp49 ν260) aQ aF)∧Fx k2 a8 aF aS=some res) ?_ ?_
    ·skip
     refine qnB [(34,.bool (a0.2==0))] hF fun a hF=>?_
     refine Ai hF rfl (fun hc=>?_) (fun hc=>?_)
     ·replace h:=Ag h hc
      refine WI.region ?_
      refine qo 2 2 [(35,sv a6 a1 a7),(36,.agg #[iv a0.1.Kind,.string a0.1.Name,iv a0.1.Time,.string a0.1.Sweep.Site.Name,iv a0.1.Sweep.Site.X,iv a0.1.Sweep.Site.Y,iv a0.1.Sweep.Site.Z,iv a0.1.Sweep.Site.Rose,iv a0.1.Sweep.Site.Gates,iv a0.1.Sweep.Site.Step,iv a0.1.Sweep.Site.Width,iv a0.1.Sweep.Tilt,iv a0.1.Sweep.Time,sv a2 a0.1.Sweep.Rays a4,iv a0.1.Field.Grid.X,iv a0.1.Field.Grid.Y,iv a0.1.Field.Grid.Size,iv a0.1.Field.Grid.Wide,iv a0.1.Field.Grid.High,sv a3 a0.1.Field.Vals a5,.string a0.1.Text])] hF (oN 49 0 0 21 hS.i rfl<|A9) fun a hF=>?_
      have b1:All2 (Rp49 ν260) ([[iv a0.1.Kind,.string a0.1.Name,iv a0.1.Time,.string a0.1.Sweep.Site.Name,iv a0.1.Sweep.Site.X,iv a0.1.Sweep.Site.Y,iv a0.1.Sweep.Site.Z,iv a0.1.Sweep.Site.Rose,iv a0.1.Sweep.Site.Gates,iv a0.1.Sweep.Site.Step,iv a0.1.Sweep.Site.Width,iv a0.1.Sweep.Tilt,iv a0.1.Sweep.Time,sv a2 a0.1.Sweep.Rays a4,iv a0.1.Field.Grid.X,iv a0.1.Field.Grid.Y,iv a0.1.Field.Grid.Size,iv a0.1.Field.Grid.Wide,iv a0.1.Field.Grid.High,sv a3 a0.1.Field.Vals a5,.string a0.1.Text]]:List (List Value)) [(ref12_Item.mk a0.1.Kind a0.1.Name a0.1.Time (api_Sweep.mk (api_Site.mk a0.1.Sweep.Site.Name a0.1.Sweep.Site.X a0.1.Sweep.Site.Y a0.1.Sweep.Site.Z a0.1.Sweep.Site.Rose a0.1.Sweep.Site.Gates a0.1.Sweep.Site.Step a0.1.Sweep.Site.Width) a0.1.Sweep.Tilt a0.1.Sweep.Time a0.1.Sweep.Rays) (api_Field.mk (api_Grid.mk a0.1.Field.Grid.X a0.1.Field.Grid.Y a0.1.Field.Grid.Size a0.1.Field.Grid.Wide a0.1.Field.Grid.High) a0.1.Field.Vals) a0.1.Text)]:=(All2.cons ⟨a2,a4,b5,a3,a5,rfl,b6,b7⟩ All2.nil)
      refine SK.wi (Sj (e:=49) (sz:=21) (f:=fN 21) (t:=28) (len:=1) (fun aX=>[(0,sv ad1 p0 cap2),(5,sv a6 a1 a7),(6,iv a9),(8,iv a8),(35,sv a6 a1 a7),(37,sb aX 1)]) #[(0,.agg #[iv a0.1.Kind,.string a0.1.Name,iv a0.1.Time,.string a0.1.Sweep.Site.Name,iv a0.1.Sweep.Site.X,iv a0.1.Sweep.Site.Y,iv a0.1.Sweep.Site.Z,iv a0.1.Sweep.Site.Rose,iv a0.1.Sweep.Site.Gates,iv a0.1.Sweep.Site.Step,iv a0.1.Sweep.Site.Width,iv a0.1.Sweep.Tilt,iv a0.1.Sweep.Time,sv a2 a0.1.Sweep.Rays a4,iv a0.1.Field.Grid.X,iv a0.1.Field.Grid.Y,iv a0.1.Field.Grid.Size,iv a0.1.Field.Grid.Wide,iv a0.1.Field.Grid.High,sv a3 a0.1.Field.Vals a5,.string a0.1.Text])] #[iv a0.1.Kind,.string a0.1.Name,iv a0.1.Time,.string a0.1.Sweep.Site.Name,iv a0.1.Sweep.Site.X,iv a0.1.Sweep.Site.Y,iv a0.1.Sweep.Site.Z,iv a0.1.Sweep.Site.Rose,iv a0.1.Sweep.Site.Gates,iv a0.1.Sweep.Site.Step,iv a0.1.Sweep.Site.Width,iv a0.1.Sweep.Tilt,iv a0.1.Sweep.Time,sv a2 a0.1.Sweep.Rays a4,iv a0.1.Field.Grid.X,iv a0.1.Field.Grid.Y,iv a0.1.Field.Grid.Size,iv a0.1.Field.Grid.Wide,iv a0.1.Field.Grid.High,sv a3 a0.1.Field.Vals a5,.string a0.1.Text] ([[iv a0.1.Kind,.string a0.1.Name,iv a0.1.Time,.string a0.1.Sweep.Site.Name,iv a0.1.Sweep.Site.X,iv a0.1.Sweep.Site.Y,iv a0.1.Sweep.Site.Z,iv a0.1.Sweep.Site.Rose,iv a0.1.Sweep.Site.Gates,iv a0.1.Sweep.Site.Step,iv a0.1.Sweep.Site.Width,iv a0.1.Sweep.Tilt,iv a0.1.Sweep.Time,sv a2 a0.1.Sweep.Rays a4,iv a0.1.Field.Grid.X,iv a0.1.Field.Grid.Y,iv a0.1.Field.Grid.Size,iv a0.1.Field.Grid.Wide,iv a0.1.Field.Grid.High,sv a3 a0.1.Field.Vals a5,.string a0.1.Text]]:List (List Value)) ([(ref12_Item.mk a0.1.Kind a0.1.Name a0.1.Time (api_Sweep.mk (api_Site.mk a0.1.Sweep.Site.Name a0.1.Sweep.Site.X a0.1.Sweep.Site.Y a0.1.Sweep.Site.Z a0.1.Sweep.Site.Rose a0.1.Sweep.Site.Gates a0.1.Sweep.Site.Step a0.1.Sweep.Site.Width) a0.1.Sweep.Tilt a0.1.Sweep.Time a0.1.Sweep.Rays) (api_Field.mk (api_Grid.mk a0.1.Field.Grid.X a0.1.Field.Grid.Y a0.1.Field.Grid.Size a0.1.Field.Grid.Wide a0.1.Field.Grid.High) a0.1.Field.Vals) a0.1.Text)]) hF hS kr ⟨kr⟩ kr (Eg 21) rfl rfl rfl kr (fun _=>⟨kr⟩) fun aX w a hF hS=>?_)
      obtain ⟨aR,b0,h⟩:=A1 h
      have bB:All2 (Rp49 ν260) (aA++([[iv a0.1.Kind,.string a0.1.Name,iv a0.1.Time,.string a0.1.Sweep.Site.Name,iv a0.1.Sweep.Site.X,iv a0.1.Sweep.Site.Y,iv a0.1.Sweep.Site.Z,iv a0.1.Sweep.Site.Rose,iv a0.1.Sweep.Site.Gates,iv a0.1.Sweep.Site.Step,iv a0.1.Sweep.Site.Width,iv a0.1.Sweep.Tilt,iv a0.1.Sweep.Time,sv a2 a0.1.Sweep.Rays a4,iv a0.1.Field.Grid.X,iv a0.1.Field.Grid.Y,iv a0.1.Field.Grid.Size,iv a0.1.Field.Grid.Wide,iv a0.1.Field.Grid.High,sv a3 a0.1.Field.Vals a5,.string a0.1.Text]]:List (List Value))) aR:=by rw [(Ji b0).1];exact All2.app aJ b1
      refine SK.wi (T1 (t:=28) (ty:=28) (bytes:=224) (c:=aA) (c':=([[iv a0.1.Kind,.string a0.1.Name,iv a0.1.Time,.string a0.1.Sweep.Site.Name,iv a0.1.Sweep.Site.X,iv a0.1.Sweep.Site.Y,iv a0.1.Sweep.Site.Z,iv a0.1.Sweep.Site.Rose,iv a0.1.Sweep.Site.Gates,iv a0.1.Sweep.Site.Step,iv a0.1.Sweep.Site.Width,iv a0.1.Sweep.Tilt,iv a0.1.Sweep.Time,sv a2 a0.1.Sweep.Rays a4,iv a0.1.Field.Grid.X,iv a0.1.Field.Grid.Y,iv a0.1.Field.Grid.Size,iv a0.1.Field.Grid.Wide,iv a0.1.Field.Grid.High,sv a3 a0.1.Field.Vals a5,.string a0.1.Text]]:List (List Value))) (l:=a1) (l':=([(ref12_Item.mk a0.1.Kind a0.1.Name a0.1.Time (api_Sweep.mk (api_Site.mk a0.1.Sweep.Site.Name a0.1.Sweep.Site.X a0.1.Sweep.Site.Y a0.1.Sweep.Site.Z a0.1.Sweep.Site.Rose a0.1.Sweep.Site.Gates a0.1.Sweep.Site.Step a0.1.Sweep.Site.Width) a0.1.Sweep.Tilt a0.1.Sweep.Time a0.1.Sweep.Rays) (api_Field.mk (api_Grid.mk a0.1.Field.Grid.X a0.1.Field.Grid.Y a0.1.Field.Grid.Size a0.1.Field.Grid.Wide a0.1.Field.Grid.High) a0.1.Field.Vals) a0.1.Text)])) (fun aN aP=>[(0,sv ad1 p0 cap2),(5,sv a6 a1 a7),(6,iv a9),(8,iv a8),(38,sv aN aR aP)]) 2 hF hS rfl kr ⟨kr⟩ kr (hS.arr (i:=0) rfl) (ArrQ.one b1 Rp49.one) b0 (fun _ _=>⟨kr⟩) fun aN aP w a hF hS=>?_)
      refine rn 1 5 [(0,sv ad1 p0 cap2),(5,sv aN aR aP),(6,iv a9),(8,iv a8)] hF fun a hF=>?_
      refine wfn rfl ?_
      exact ⟨aR,a9,aN,aP,(aA++([[iv a0.1.Kind,.string a0.1.Name,iv a0.1.Time,.string a0.1.Sweep.Site.Name,iv a0.1.Sweep.Site.X,iv a0.1.Sweep.Site.Y,iv a0.1.Sweep.Site.Z,iv a0.1.Sweep.Site.Rose,iv a0.1.Sweep.Site.Gates,iv a0.1.Sweep.Site.Step,iv a0.1.Sweep.Site.Width,iv a0.1.Sweep.Tilt,iv a0.1.Sweep.Time,sv a2 a0.1.Sweep.Rays a4,iv a0.1.Field.Grid.X,iv a0.1.Field.Grid.Y,iv a0.1.Field.Grid.Size,iv a0.1.Field.Grid.Wide,iv a0.1.Field.Grid.High,sv a3 a0.1.Field.Vals a5,.string a0.1.Text]]:List (List Value))),hF.sub kr,St.pick [2,1,3] (by decide) hS,bB,h⟩
     ·replace h:=Af h hc
      refine WI.region ?_
      obtain ⟨b3,bE,h⟩:=A1 h
      refine ro 3 3 [(0,sv ad1 p0 cap2),(5,sv a6 a1 a7),(6,iv b3),(8,iv a8)] hF (oA 3 bE<|A9) fun a hF=>?_
      refine wfn rfl ?_
      exact ⟨a1,b3,a6,a7,aA,hF.sub kr,St.pick [1,0,2] (by decide) hS,aJ,h⟩
    rintro a w ⟨aF,aS,aM,aO,aQ,hF,hS,bA,h⟩
    rw [Fx] at h
    refine WI.region ?_
    refine qn 2 2 [(7,iv a8)] hF fun a hF=>?_
    refine WI.fin rfl (Aa<|A0<|?_)
    rw [hk2] at h
    exact ⟨nk2,Nat.lt_succ_self _,aF,aS,a8,ν260,aM,aO,aQ,hF.sub kr,St.pick [0,2] (by decide) hS,bA,aI,hext,hlow,h⟩
   ·replace h:=Af h hc
    refine wpIn_exit (A7<|A7<|Av<|A0 ?_)
    exact ⟨a1,a9,ν243,a6,a7,aA,hF.sub kr,St.pick [0,1] (by decide) hS,aJ,aE,hext,hlow,h⟩
  clear aE
  rintro a w ⟨aB,aK,ν144,aG,aH,aU,hF,hS,b9,b8,hext,hlow,h⟩
  replace hA3:=hA3.mono b8
  rw [Gx] at h
  refine Ar ?_
  refine qnB [(44,.bool (decide ((ln aB)>1000)))] hF fun a hF=>?_
  refine Ai hF rfl (fun hc=>?_) (fun hc=>?_)
  ·replace h:=Ag h hc
   refine rnB [(2,.slice none 0 0),(3,iv 0),(4,iv 9)] hF fun a hF=>?_
   refine wpIn_ret (A5<|Ab [.tmp 2,.tmp 3,.tmp 4] [.slice none 0 0,iv 0,iv 9] hF rfl ⟨rfl,rfl,rfl,trivial⟩ ?_)
   obtain rfl:=Ao h
   replace hS:=hS.nilarr 49 21 (fN 21)
   exact ⟨_,rfl,ν144,_,_,_,hext,rfl,All2.nil,St.pick [2,0] (by decide) hS⟩
  ·replace h:=Af h hc
   refine wpIn_skip (A0 ?_)
   refine rnB [(2,sv aG aB aH),(3,iv aK),(4,iv 0)] hF fun a hF=>?_
   refine wpIn_ret (Ab [.tmp 2,.tmp 3,.tmp 4] [sv aG aB aH,iv aK,iv 0] hF rfl ⟨rfl,rfl,rfl,trivial⟩ ?_)
   obtain rfl:=Ao h
   exact ⟨_,rfl,ν144,_,_,_,hext,rfl,b9,St.pick [1,0] (by decide) hS⟩
end Go.Proofs.YtifbomimeodibaaGreat
