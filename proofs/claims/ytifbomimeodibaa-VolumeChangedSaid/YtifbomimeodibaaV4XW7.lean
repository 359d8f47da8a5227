import Derived.Test.YtifbomimeodibaaV4XD
import Derived.Test.YtifbomimeodibaaProg
import Derived.Test.YtifbomimeodibaaV4XW1
import Derived.Test.YtifbomimeodibaaV4XW3
import Derived.Test.YtifbomimeodibaaV4XW4
import Derived.Test.YtifbomimeodibaaV4XW5
namespace Go.Proofs.Ytifbomimeodibaa
open Go Go.RowKit Go.Eng
set_option maxRecDepth 10000
set_option maxHeartbeats 4000000
set_option linter.unusedVariables false
set_option linter.unusedSimpArgs false
theorem U8 (F:Nat) (p0:(List law12_Thing)) (res:((List volume_Item)×Bool)) (h:Lt F p0=some res) (μ:Frz) (w0:World) (hm:FrzAt μ w0) {ad1:Option Addr} {cap2:Nat} {css3:List (List Value)} (hA4:ArrQ μ 6 Rp58 ad1 cap2 css3 p0):Dd Try.prog 7 #[sv ad1 p0 cap2] w0 (fun e w=>∃(ν_:Frz) (zad0:Option Addr) (zcap0:Nat) (zcss0:List (List Value)),μ.ext w0.heap.size ν_∧e=(.tuple #[sv zad0 res.1 zcap0,.bool res.2])∧All2 (Rp46 ν_) zcss0 res.1∧St w0 [fz w0 ν_,arr 46 21 (fN 21) zad0 res.1.length zcap0 zcss0] w):=by
 obtain ⟨hlow,hS⟩:=hm.init
 have hext:=Frz.ext_refl w0.heap.size μ
 rw [Lt] at h
 refine Aq Try.func7 rfl 23 [(0,sv ad1 p0 cap2)] rfl rfl kr fun a w hw hF=>?_
 replace hS:=hS.cast hw
 clear hw
 refine esr ?_
 refine rn 2 2 [(0,sv ad1 p0 cap2)] hF fun a hF=>?_
 refine wfn rfl ?_
 refine B0 ?_
 refine esr ?_
 refine rn 3 3 [(0,sv ad1 p0 cap2),(9,.bool (decide ((ln p0)>8)))] hF fun a hF=>?_
 refine wfn rfl ?_
 refine As hF rfl (fun hc=>?_) (fun hc=>?_)
 ·replace h:=Ao h hc
  refine esr ?_
  refine rn 2 2 [(2,.slice none 0 0),(3,.bool false)] hF fun a hF=>?_
  refine wfn rfl ?_
  refine wpIn_ret (Ab<|Ak [.tmp 2,.tmp 3] [.slice none 0 0,.bool false] hF rfl ⟨rfl,rfl,trivial⟩ ?_)
  have hr_:=Option.some.inj h
  subst hr_
  replace hS:=hS.nilarr 46 21 (fN 21)
  exact ⟨_,rfl,μ,_,_,_,hext,rfl,All2.nil,St.pick [1,0] (by decide) hS⟩
 ·replace h:=An h hc
  refine wpIn_skip (A1 ?_)
  refine esr ?_
  refine rn 1 1 [(0,sv ad1 p0 cap2),(4,.slice none 0 0)] hF fun a hF=>?_
  refine wfn rfl ?_
  have aF:=Frz.le_refl μ
  refine Ei (fun a w=>∃(aE:(List volume_Item)) (ν103:Frz) (aG:Option Addr) (aI:Nat) (aO:List (List Value)),Fr 23 [] [(4,sv aG aE aI)] a∧St w0 [arr 46 21 (fN 21) aG aE.length aI aO,fz w0 ν103] w∧(All2 (Rp46 ν103) aO aE)∧(μ.le ν103)∧(μ.ext w0.heap.size ν103)∧(Ba w0 ν103)∧Ln aE=some res) ?_ ?_
  ·skip
   refine esr ?_
   refine rn 3 3 [(4,.slice none 0 0),(10,sv ad1 p0 cap2),(11,iv (ln p0)),(12,iv 0)] hF fun a hF=>?_
   refine wfn rfl ?_
   refine wpIn_block ?_
   have aT:=Frz.le_refl μ
   replace hS:=hS.nilarr 46 21 (fN 21)
   refine E4 (fun n_ a w=>∃(a3:Int) (a2:(List volume_Item)) (ν173:Frz) (a4:Option Addr) (a5:Nat) (aC:List (List Value)),Fr 23 [] [(4,sv a4 a2 a5),(10,sv ad1 p0 cap2),(11,iv (ln p0)),(12,iv a3)] a∧St w0 [arr 46 21 (fN 21) a4 a2.length a5 aC,fz w0 ν173] w∧(All2 (Rp46 ν173) aC a2)∧(μ.le ν173)∧(μ.ext w0.heap.size ν173)∧(Ba w0 ν173)∧Hw F p0 n_ a3 a2=some res) F ⟨0,[],μ,none,0,[],hF.sub kr,St.pick [0,1] (by decide) hS,All2.nil,aT,hext,hlow,h⟩ ?_
   clear aT
   rintro nk2 a w ⟨a3,a2,ν173,a4,a5,aC,hF,hS,aN,aK,hext,hlow,h⟩
   rcases nk2 with _|nk2
   ·cases (show (none:Option ((List volume_Item)×Bool))=some res from h)
   replace hA4:=hA4.mono Rp58.mono aK
   replace aF:=Frz.le_trans aF aK
   obtain ⟨k2,hk2⟩:∃k,k=Hw F p0 nk2:=⟨_,rfl⟩
   replace h:Lm F p0 k2 a3 a2=some res:=by rw [hk2];exact h
   rw [Lm] at h
   refine esr ?_
   refine rn 1 1 [(4,sv a4 a2 a5),(10,sv ad1 p0 cap2),(11,iv (ln p0)),(12,iv a3),(13,.bool (decide (a3<(ln p0))))] hF fun a hF=>?_
   refine wfn rfl ?_
   refine B0 ?_
   refine As hF rfl (fun hc=>?_) (fun hc=>?_)
   ·replace h:=Ao h hc
    refine wpIn_skip (A1 ?_)
    refine B0 ?_
    refine wpIn_block ?_
    refine esr ?_
    replace h:=A4 h
    obtain ⟨a1,b4,h⟩:=h
    obtain ⟨b7,aS,b0⟩:=Dn hA4.2 b4
    obtain ⟨a6,a7,rfl,aP⟩:=b0
    refine rno 2 [.run [] (Instr.indexAt 22 (sv ad1 p0 cap2) (iv a3)) (.pointer (some (Ag ad1 a3 6))),.run [] (Instr.loadAt 58 (.pointer (some (Ag ad1 a3 6)))) (.agg #[.int .u8 a1.Kind,.int .u32 a1.Time,.int .u8 a1.Sides.1,.int .u8 a1.Sides.2.1,.int .u8 a1.Sides.2.2,sv a6 a1.Numbers a7])] 2 [(4,sv a4 a2 a5),(10,sv ad1 p0 cap2),(11,iv (ln p0)),(12,iv a3),(15,.agg #[.int .u8 a1.Kind,.int .u32 a1.Time,.int .u8 a1.Sides.1,.int .u8 a1.Sides.2.1,.int .u8 a1.Sides.2.2,sv a6 a1.Numbers a7])] hF (A0 (Bc (hA4.at (hS.frz (i:=1) rfl hlow)) kr (fun _=>aS)) (A0 (Ft (m:=6) (i:=a3) (us:=[.int .u8 a1.Kind,.int .u32 a1.Time,.int .u8 a1.Sides.1,.int .u8 a1.Sides.2.1,.int .u8 a1.Sides.2.2,sv a6 a1.Numbers a7]) 0 (Dp 6) (fun _ hd=>(hA4.at ((hS.at_ hd).frz (i:=1) rfl hlow))) kr (fun _=>aS) ⟨rfl,rfl⟩) Aa)) fun a hF=>?_
    refine SK.wi (Bs (t:=58) (fun aM=>[(4,sv a4 a2 a5),(6,pb aM),(10,sv ad1 p0 cap2),(11,iv (ln p0)),(12,iv a3),(15,.agg #[.int .u8 a1.Kind,.int .u32 a1.Time,.int .u8 a1.Sides.1,.int .u8 a1.Sides.2.1,.int .u8 a1.Sides.2.2,sv a6 a1.Numbers a7])]) #[.int .u8 0,.int .u32 0,.int .u8 0,.int .u8 0,.int .u8 0,.slice none 0 0] hF hS kr ⟨kr⟩ kr (fun _=>⟨kr⟩) fun aM w a hF hS=>?_)
    refine SK.wi (Ap (t:=58) [(4,sv a4 a2 a5),(6,pb aM),(10,sv ad1 p0 cap2),(11,iv (ln p0)),(12,iv a3)] 0 0 (.agg #[.int .u8 a1.Kind,.int .u32 a1.Time,.int .u8 a1.Sides.1,.int .u8 a1.Sides.2.1,.int .u8 a1.Sides.2.2,sv a6 a1.Numbers a7]) #[.int .u8 a1.Kind,.int .u32 a1.Time,.int .u8 a1.Sides.1,.int .u8 a1.Sides.2.1,.int .u8 a1.Sides.2.2,sv a6 a1.Numbers a7] hF hS rfl kr ⟨kr⟩ kr kr kr kr ⟨kr⟩ fun w a hF hS=>?_)
    refine wfn rfl ?_
    refine WI.region ?_
    refine rno 2 [.run [] (Instr.loadAt 58 (pb aM)) (.agg #[.int .u8 a1.Kind,.int .u32 a1.Time,.int .u8 a1.Sides.1,.int .u8 a1.Sides.2.1,.int .u8 a1.Sides.2.2,sv a6 a1.Numbers a7])] 2 [(4,sv a4 a2 a5),(10,sv ad1 p0 cap2),(11,iv (ln p0)),(12,iv a3),(16,sv a4 a2 a5),(17,.agg #[.int .u8 a1.Kind,.int .u32 a1.Time,.int .u8 a1.Sides.1,.int .u8 a1.Sides.2.1,.int .u8 a1.Sides.2.2,sv a6 a1.Numbers a7])] hF (A0 (obN (us:=[.int .u8 a1.Kind,.int .u32 a1.Time,.int .u8 a1.Sides.1,.int .u8 a1.Sides.2.1,.int .u8 a1.Sides.2.2,sv a6 a1.Numbers a7]) kr (fun _ hd=>((hS.at_ hd).blk (i:=0) rfl).cells rfl)) Aa) fun a hF=>?_
    replace h:=A4 h
    obtain ⟨a0,b6,h⟩:=h
    refine SK.wi (Bz (fun aW=>[(4,sv a4 a2 a5),(10,sv ad1 p0 cap2),(11,iv (ln p0)),(12,iv a3),(16,sv a4 a2 a5),(18,aW)]) hF kr ⟨kr⟩ (Pm F _ _ b6 ν173 w (hS.frz (i:=2) rfl hlow) aP) (fun _=>⟨kr⟩) ?_)
    rintro aW w a ⟨ν192,a8,aA,aX,a9,aB,aD,rfl,aY,aZ,hQ⟩ hF
    replace hext:=Frz.ext_trans hext (Frz.ext_mono aD hS.ext.size)
    obtain ⟨hlow,hS⟩:=hS.frzMerge (i:=2) rfl hlow aD hQ
    replace hA4:=hA4.mono Rp58.mono aD.1
    replace aN:=All2.mono Rp46.mono aD.1 aN
    replace aP:=aP.mono aD.1
    replace aF:=Frz.le_trans aF aD.1
    replace aK:=Frz.le_trans aK aD.1
    have aV:All2 (Rp46 ν192) ([[iv a0.Kind,.string a0.Name,iv a0.Time,.string a0.Sweep.Site.Name,iv a0.Sweep.Site.X,iv a0.Sweep.Site.Y,iv a0.Sweep.Site.Z,iv a0.Sweep.Site.Rose,iv a0.Sweep.Site.Gates,iv a0.Sweep.Site.Step,iv a0.Sweep.Site.Width,iv a0.Sweep.Tilt,iv a0.Sweep.Time,sv a8 a0.Sweep.Rays aA,iv a0.Field.Grid.X,iv a0.Field.Grid.Y,iv a0.Field.Grid.Size,iv a0.Field.Grid.Wide,iv a0.Field.Grid.High,sv a9 a0.Field.Vals aB,.string a0.Text]]:List (List Value)) [a0]:=(All2.cons ⟨a8,aA,aX,a9,aB,rfl,aY,aZ⟩ All2.nil)
    refine SK.wi (Sk (e:=46) (sz:=21) (f:=fN 21) (t:=24) (len:=1) (fun aR=>[(4,sv a4 a2 a5),(10,sv ad1 p0 cap2),(11,iv (ln p0)),(12,iv a3),(16,sv a4 a2 a5),(19,sb aR 1)]) #[(0,.agg #[iv a0.Kind,.string a0.Name,iv a0.Time,.string a0.Sweep.Site.Name,iv a0.Sweep.Site.X,iv a0.Sweep.Site.Y,iv a0.Sweep.Site.Z,iv a0.Sweep.Site.Rose,iv a0.Sweep.Site.Gates,iv a0.Sweep.Site.Step,iv a0.Sweep.Site.Width,iv a0.Sweep.Tilt,iv a0.Sweep.Time,sv a8 a0.Sweep.Rays aA,iv a0.Field.Grid.X,iv a0.Field.Grid.Y,iv a0.Field.Grid.Size,iv a0.Field.Grid.Wide,iv a0.Field.Grid.High,sv a9 a0.Field.Vals aB,.string a0.Text])] #[iv a0.Kind,.string a0.Name,iv a0.Time,.string a0.Sweep.Site.Name,iv a0.Sweep.Site.X,iv a0.Sweep.Site.Y,iv a0.Sweep.Site.Z,iv a0.Sweep.Site.Rose,iv a0.Sweep.Site.Gates,iv a0.Sweep.Site.Step,iv a0.Sweep.Site.Width,iv a0.Sweep.Tilt,iv a0.Sweep.Time,sv a8 a0.Sweep.Rays aA,iv a0.Field.Grid.X,iv a0.Field.Grid.Y,iv a0.Field.Grid.Size,iv a0.Field.Grid.Wide,iv a0.Field.Grid.High,sv a9 a0.Field.Vals aB,.string a0.Text] ([[iv a0.Kind,.string a0.Name,iv a0.Time,.string a0.Sweep.Site.Name,iv a0.Sweep.Site.X,iv a0.Sweep.Site.Y,iv a0.Sweep.Site.Z,iv a0.Sweep.Site.Rose,iv a0.Sweep.Site.Gates,iv a0.Sweep.Site.Step,iv a0.Sweep.Site.Width,iv a0.Sweep.Tilt,iv a0.Sweep.Time,sv a8 a0.Sweep.Rays aA,iv a0.Field.Grid.X,iv a0.Field.Grid.Y,iv a0.Field.Grid.Size,iv a0.Field.Grid.Wide,iv a0.Field.Grid.High,sv a9 a0.Field.Vals aB,.string a0.Text]]:List (List Value)) ([a0]) hF hS kr ⟨kr⟩ kr (Dp 21) rfl rfl rfl kr (fun _=>⟨kr⟩) fun aR w a hF hS=>?_)
    replace h:=A4 h
    obtain ⟨aL,aU,h⟩:=h
    have b3:All2 (Rp46 ν192) (aC++([[iv a0.Kind,.string a0.Name,iv a0.Time,.string a0.Sweep.Site.Name,iv a0.Sweep.Site.X,iv a0.Sweep.Site.Y,iv a0.Sweep.Site.Z,iv a0.Sweep.Site.Rose,iv a0.Sweep.Site.Gates,iv a0.Sweep.Site.Step,iv a0.Sweep.Site.Width,iv a0.Sweep.Tilt,iv a0.Sweep.Time,sv a8 a0.Sweep.Rays aA,iv a0.Field.Grid.X,iv a0.Field.Grid.Y,iv a0.Field.Grid.Size,iv a0.Field.Grid.Wide,iv a0.Field.Grid.High,sv a9 a0.Field.Vals aB,.string a0.Text]]:List (List Value))) aL:=by rw [(J7 aU).1];exact All2.app aN aV
    refine SK.wi (S5 (t:=24) (ty:=24) (bytes:=224) (c:=aC) (c':=([[iv a0.Kind,.string a0.Name,iv a0.Time,.string a0.Sweep.Site.Name,iv a0.Sweep.Site.X,iv a0.Sweep.Site.Y,iv a0.Sweep.Site.Z,iv a0.Sweep.Site.Rose,iv a0.Sweep.Site.Gates,iv a0.Sweep.Site.Step,iv a0.Sweep.Site.Width,iv a0.Sweep.Tilt,iv a0.Sweep.Time,sv a8 a0.Sweep.Rays aA,iv a0.Field.Grid.X,iv a0.Field.Grid.Y,iv a0.Field.Grid.Size,iv a0.Field.Grid.Wide,iv a0.Field.Grid.High,sv a9 a0.Field.Vals aB,.string a0.Text]]:List (List Value))) (l:=a2) (l':=([a0])) (fun aH aJ=>[(4,sv a4 a2 a5),(10,sv ad1 p0 cap2),(11,iv (ln p0)),(12,iv a3),(20,sv aH aL aJ)]) 2 hF hS rfl kr ⟨kr⟩ kr (hS.arr (i:=0) rfl) (ArrQ.one aV Rp46.one) aU (fun _ _=>⟨kr⟩) fun aH aJ w a hF hS=>?_)
    refine rn 1 6 [(4,sv aH aL aJ),(10,sv ad1 p0 cap2),(11,iv (ln p0)),(12,iv a3)] hF fun a hF=>?_
    refine WI.fin rfl (Ac<|A1<|?_)
    refine WI.region ?_
    replace h:=A4 h
    obtain ⟨aQ,b5,h⟩:=h
    refine rno 2 [.run [] (binOp .add 3 (iv a3) (iv 1)) (iv aQ)] 2 [(4,sv aH aL aJ),(10,sv ad1 p0 cap2),(11,iv (ln p0)),(12,iv aQ)] hF (A0 (Aw (fun _=>b5)) Aa) fun a hF=>?_
    refine wfn rfl ?_
    rw [hk2] at h
    exact ⟨nk2,Nat.lt_succ_self _,aQ,aL,ν192,aH,aJ,(aC++([[iv a0.Kind,.string a0.Name,iv a0.Time,.string a0.Sweep.Site.Name,iv a0.Sweep.Site.X,iv a0.Sweep.Site.Y,iv a0.Sweep.Site.Z,iv a0.Sweep.Site.Rose,iv a0.Sweep.Site.Gates,iv a0.Sweep.Site.Step,iv a0.Sweep.Site.Width,iv a0.Sweep.Tilt,iv a0.Sweep.Time,sv a8 a0.Sweep.Rays aA,iv a0.Field.Grid.X,iv a0.Field.Grid.Y,iv a0.Field.Grid.Size,iv a0.Field.Grid.Wide,iv a0.Field.Grid.High,sv a9 a0.Field.Vals aB,.string a0.Text]]:List (List Value))),hF.sub kr,St.pick [2,3] (by decide) hS,b3,aK,hext,hlow,h⟩
   ·replace h:=An h hc
    refine wpIn_exit (Ad<|Ad<|Bb<|A1 ?_)
    exact ⟨a2,ν173,a4,a5,aC,hF.sub kr,St.pick [0,1] (by decide) hS,aN,aF,hext,hlow,h⟩
  clear aF
  rintro a w ⟨aE,ν103,aG,aI,aO,hF,hS,b2,b1,hext,hlow,h⟩
  replace hA4:=hA4.mono Rp58.mono b1
  rw [Ln] at h
  refine esr ?_
  refine rn 3 3 [(2,sv aG aE aI),(3,.bool true)] hF fun a hF=>?_
  refine wfn rfl ?_
  refine wpIn_ret (Ak [.tmp 2,.tmp 3] [sv aG aE aI,.bool true] hF rfl ⟨rfl,rfl,trivial⟩ ?_)
  have hr_:=Option.some.inj h
  subst hr_
  exact ⟨_,rfl,ν103,_,_,_,hext,rfl,b2,St.pick [1,0] (by decide) hS⟩
theorem Pv (F:Nat) (p0:api_Field) (res:Int) (h:Jd F p0=some res) (μ:Frz) (w0:World) (hm:FrzAt μ w0) {ad1:Option Addr} {cap2:Nat} (hA3:ArrM μ 2 api_Span.cells ad1 cap2 p0.Vals):Calls Try.prog 104 #[.agg #[iv p0.Grid.X,iv p0.Grid.Y,iv p0.Grid.Size,iv p0.Grid.Wide,iv p0.Grid.High,sv ad1 p0.Vals cap2]] w0 (fun e w=>e=.returned (iv res)∧Ext w0 w):=by
 obtain ⟨hlow,hS⟩:=hm.init
 have hext:=Frz.ext_refl w0.heap.size μ
 rw [Jd] at h
 refine Aq Try.func104 rfl 5 [(0,.agg #[iv p0.Grid.X,iv p0.Grid.Y,iv p0.Grid.Size,iv p0.Grid.Wide,iv p0.Grid.High,sv ad1 p0.Vals cap2])] rfl rfl kr fun a w hw hF=>?_
 replace hS:=hS.cast hw
 clear hw
 refine esr ?_
 refine SK.wi (H4 (t:=44) (fun b4=>[(1,pb b4)]) (.agg #[iv p0.Grid.X,iv p0.Grid.Y,iv p0.Grid.Size,iv p0.Grid.Wide,iv p0.Grid.High,sv ad1 p0.Vals cap2]) #[iv p0.Grid.X,iv p0.Grid.Y,iv p0.Grid.Size,iv p0.Grid.Wide,iv p0.Grid.High,sv ad1 p0.Vals cap2] hF hS kr ⟨kr⟩ kr (fun _=>⟨kr⟩) fun b4 w a hF hS=>?_)
 refine rn 1 2 [(1,pb b4)] hF fun a hF=>?_
 refine wfn rfl ?_
 refine esr ?_
 replace h:=A4 h
 obtain ⟨y5,hy5,h⟩:=h
 refine rx 3 [.run [] (Instr.loadAt 44 (pb b4)) (.agg #[iv p0.Grid.X,iv p0.Grid.Y,iv p0.Grid.Size,iv p0.Grid.Wide,iv p0.Grid.High,sv ad1 p0.Vals cap2]),.call [] 106 #[.agg #[iv p0.Grid.X,iv p0.Grid.Y,iv p0.Grid.Size,iv p0.Grid.Wide,iv p0.Grid.High,sv ad1 p0.Vals cap2],iv 1073741824] (iv y5)] 3 [(2,iv y5)] hF (A0 (obN (us:=[iv p0.Grid.X,iv p0.Grid.Y,iv p0.Grid.Size,iv p0.Grid.Wide,iv p0.Grid.High,sv ad1 p0.Vals cap2]) kr (fun _ hd=>((hS.later hd).blk (i:=0) rfl).cells rfl)) (A0 (show Ob.ok _ Ext _ _ from fun hk w2 hd=>T9 F p0 1073741824 _ ((fun _=>hy5) hk) _ w2 (A7 w2) (hA3.mono (FrzAt.le_mem ((hS.later hd).frz (i:=1) rfl hlow)))) Aa)) fun a w hF hx=>?_
 replace hS:=hS.later hx
 refine wfn rfl ?_
 refine wpIn_ret (Ak [.tmp 2] [iv y5] hF rfl ⟨rfl,trivial⟩ ?_)
 have hr_:=Option.some.inj h
 subst hr_
 exact ⟨rfl,hS.ext⟩
theorem Nd (F:Nat) (p0:volume_writer) (p1:api_Echo) (res:volume_writer) (h:Fe F p0 p1=some res) (μ:Frz) (w0 w1:World) (T_:List Res) (hlow:Ba w0 μ) {cb0:Nat} {ad1:Option Addr} {cap2:Nat} (hS:St w0 (fz w0 μ::blk cb0 106 #[sv ad1 p0.b cap2]::arrT 5 1 (fK .u8) ad1 p0.b.length cap2 p0.b::T_) w1):Dd Try.prog 93 #[pb cb0,p1.ag] w1 (fun e w=>∃(ν_:Frz) (aU:Option Addr) (aY:Nat),μ.ext w0.heap.size ν_∧Ba w0 ν_∧e=(.tuple #[])∧St w0 (fz w0 ν_::blk cb0 106 #[sv aU res.b aY]::arrT 5 1 (fK .u8) aU res.b.length aY res.b::T_) w):=by
 rw [Fe] at h
 have hext:=Frz.ext_refl w0.heap.size μ
 refine Aq Try.func93 rfl 66 [(0,pb cb0),(1,p1.ag)] rfl rfl kr fun a w hw hF=>?_
 replace hS:=hS.cast hw
 clear hw
 refine esr ?_
 refine SK.wi (H4 (t:=88) (fun b3=>[(0,pb cb0),(3,pb b3)]) (p1.ag) p1.ar hF hS kr ⟨kr⟩ kr (fun _=>⟨kr⟩) fun b3 w a hF hS=>?_)
 refine wfn rfl ?_
 refine esr ?_
 refine rno 3 [.run [] (Instr.loadAt 3 (pb b3)) (iv p1.Kind)] 3 [(0,pb cb0),(3,pb b3),(9,pb cb0),(11,iv p1.Kind)] hF (A0 (ob1 kr (fun _ hd=>(hS.at_ hd).cell (i:=0) (j:=0) rfl rfl)) Aa) fun a hF=>?_
 refine SK.wi (G0 (e:=3) (sz:=1) (f:=fI) (t:=51) (len:=1) (fun b4=>[(0,pb cb0),(3,pb b3),(9,pb cb0),(12,sb b4 1)]) #[(0,iv p1.Kind)] #[iv p1.Kind] ([p1.Kind]) hF hS kr ⟨kr⟩ kr Ee rfl rfl kr (fun _=>⟨kr⟩) fun b4 w a hF hS=>?_)
 obtain ⟨ν5,hx6,hlow,hS,hz7⟩:=hS.freeze (i:=2) (j:=0) rfl rfl (by decide) hlow
 replace hext:=Frz.ext_trans hext hx6
 have hA8:=ArrM.of_arr hz7
 replace h:=A4 h
 obtain ⟨y9,hy9,h⟩:=h
 replace hS:=hS.s3.s3.s3
 refine SK.wi (Bz (fun bO=>[(0,pb cb0),(3,pb b3)]) hF kr ⟨kr⟩ (Ax F _ _ _ hy9 ν5 w0 w _ hlow hA8 hS) (fun _=>⟨kr⟩) ?_)
 rintro bO w a ⟨ν10,b9,bD,b6,hlow,rfl,hS⟩ hF
 replace hext:=Frz.ext_trans hext b6
 replace hA8:=hA8.mono b6.1
 refine wfn rfl ?_
 refine B0 ?_
 refine esr ?_
 refine rno 3 [.run [] (Instr.loadAt 3 (pb b3)) (iv p1.Kind)] 3 [(0,pb cb0),(3,pb b3),(16,.bool (p1.Kind==1))] hF (A0 (ob1 kr (fun _ hd=>(hS.at_ hd).cell (i:=3) (j:=0) rfl rfl)) Aa) fun a hF=>?_
 refine wfn rfl ?_
 refine As hF rfl (fun hc=>?_) (fun hc=>?_)
 ·replace h:=Ao h hc
  refine esr ?_
  refine rno 4 [.run [] (Instr.loadAt 3 (.pointer (some ⟨b3,2,none⟩))) (iv p1.Power.Hi)] 4 [(17,pb cb0),(20,iv p1.Power.Hi)] hF (A0 (ob1 kr (fun _ hd=>(hS.at_ hd).cell (i:=3) (j:=2) rfl rfl)) Aa) fun a hF=>?_
  refine SK.wi (G0 (e:=3) (sz:=1) (f:=fI) (t:=51) (len:=1) (fun aW=>[(17,pb cb0),(21,sb aW 1)]) #[(0,iv p1.Power.Hi)] #[iv p1.Power.Hi] ([p1.Power.Hi]) hF hS kr ⟨kr⟩ kr Ee rfl rfl kr (fun _=>⟨kr⟩) fun aW w a hF hS=>?_)
  obtain ⟨ν16,b7,hlow,hS,bM⟩:=hS.freeze (i:=1) (j:=0) rfl rfl (by decide) hlow
  replace hA8:=hA8.mono b7.1
  replace hext:=Frz.ext_trans hext b7
  have aP:=ArrM.of_arr bM
  replace h:=A4 h
  obtain ⟨bW,bK,h⟩:=h
  refine SK.wi (Bz (fun bR=>[]) hF kr ⟨kr⟩ (Ax F _ _ _ bK ν16 w0 w _ hlow aP hS) (fun _=>⟨kr⟩) ?_)
  rintro bR w a ⟨ν21,bB,bF,aQ,hlow,rfl,hS⟩ hF
  replace hext:=Frz.ext_trans hext aQ
  replace hA8:=hA8.mono aQ.1
  replace aP:=aP.mono aQ.1
  refine wfn rfl ?_
  refine wpIn_ret (Ab<|Ak [] [] hF rfl trivial ?_)
  have hr_:=Option.some.inj h
  subst hr_
  replace hS:=hS.d3
  exact ⟨_,rfl,ν21,bB,bF,hext,hlow,rfl,hS⟩
 ·replace h:=An h hc
  refine wpIn_skip (A1 ?_)
  refine esr ?_
  refine rno 6 [.run [] (Instr.loadAt 85 (.pointer (some ⟨b3,1,none⟩))) (.agg #[iv p1.Power.Lo,iv p1.Power.Hi]),.run [] (Instr.loadAt 85 (.pointer (some ⟨b3,8,none⟩))) (.agg #[iv p1.Ratio.Lo,iv p1.Ratio.Hi]),.run [] (Instr.loadAt 85 (.pointer (some ⟨b3,10,none⟩))) (.agg #[iv p1.Match.Lo,iv p1.Match.Hi])] 6 [(0,pb cb0),(3,pb b3),(24,.agg #[iv p1.Power.Lo,iv p1.Power.Hi]),(26,.agg #[iv p1.Ratio.Lo,iv p1.Ratio.Hi]),(28,.agg #[iv p1.Match.Lo,iv p1.Match.Hi])] hF (A0 (obN (us:=[iv p1.Power.Lo,iv p1.Power.Hi]) kr (fun _ hd=>((hS.at_ hd).blk (i:=3) rfl).cells rfl)) (A0 (obN (us:=[iv p1.Ratio.Lo,iv p1.Ratio.Hi]) kr (fun _ hd=>((hS.at_ hd).blk (i:=3) rfl).cells rfl)) (A0 (obN (us:=[iv p1.Match.Lo,iv p1.Match.Hi]) kr (fun _ hd=>((hS.at_ hd).blk (i:=3) rfl).cells rfl)) Aa))) fun a hF=>?_
  refine SK.wi (G0 (e:=85) (sz:=2) (f:=api_Span.cells) (t:=42) (len:=3) (fun a0=>[(0,pb cb0),(3,pb b3),(29,sb a0 3)]) #[(0,.agg #[iv p1.Power.Lo,iv p1.Power.Hi]),(1,.agg #[iv p1.Ratio.Lo,iv p1.Ratio.Hi]),(2,.agg #[iv p1.Match.Lo,iv p1.Match.Hi])] #[iv p1.Power.Lo,iv p1.Power.Hi,iv p1.Ratio.Lo,iv p1.Ratio.Hi,iv p1.Match.Lo,iv p1.Match.Hi] ([p1.Power,p1.Ratio,p1.Match]) hF hS kr ⟨kr⟩ kr api_Span.cells_len rfl rfl kr (fun _=>⟨kr⟩) fun a0 w a hF hS=>?_)
  refine rn 1 8 [(0,pb cb0),(3,pb b3),(4,sb a0 3)] hF fun a hF=>?_
  refine wfn rfl ?_
  have a9:=Frz.le_refl ν10
  refine Ei (fun a w=>∃(aE:(List Int)) (ν67:Frz) (aN:Option Addr) (aO:Nat),Fr 66 [] [(0,pb cb0),(3,pb b3)] a∧St w0 (arrT 5 1 (fK .u8) aN aE.length aO aE::arr 85 2 api_Span.cells (some ⟨a0,0,none⟩) ([p1.Power,p1.Ratio,p1.Match]).length 3 ([p1.Power,p1.Ratio,p1.Match])::fz w0 ν67::blk cb0 106 #[sv aN aE aO]::blk b3 88 p1.ar::T_) w∧(ν10.le ν67)∧(μ.ext w0.heap.size ν67)∧(Ba w0 ν67)∧Fj F p1 aE=some res) ?_ ?_
  ·skip
   refine esr ?_
   refine rn 3 3 [(0,pb cb0),(3,pb b3),(30,sb a0 3),(31,iv ((3:Nat):Int)),(32,iv 0)] hF fun a hF=>?_
   refine wfn rfl ?_
   refine wpIn_block ?_
   have b1:=Frz.le_refl ν10
   refine E4 (fun n_ a w=>∃(a8:(List Int)) (a4:Int) (ν149:Frz) (aG:Option Addr) (aK:Nat),Fr 66 [] [(0,pb cb0),(3,pb b3),(30,sb a0 3),(31,iv ((3:Nat):Int)),(32,iv a4)] a∧St w0 (arrT 5 1 (fK .u8) aG a8.length aK a8::arr 85 2 api_Span.cells (some ⟨a0,0,none⟩) ([p1.Power,p1.Ratio,p1.Match]).length 3 ([p1.Power,p1.Ratio,p1.Match])::fz w0 ν149::blk cb0 106 #[sv aG a8 aK]::blk b3 88 p1.ar::T_) w∧(ν10.le ν149)∧(μ.ext w0.heap.size ν149)∧(Ba w0 ν149)∧C3 F p1 n_ a8 a4=some res) F ⟨y9.b,0,ν10,b9,bD,hF.sub kr,hS.s3,b1,hext,hlow,h⟩ ?_
   clear b1
   rintro nk3 a w ⟨a8,a4,ν149,aG,aK,hF,hS,aC,hext,hlow,h⟩
   rcases nk3 with _|nk3
   ·cases (show (none:Option volume_writer)=some res from h)
   replace hA8:=hA8.mono aC
   replace a9:=Frz.le_trans a9 aC
   obtain ⟨k3,hk3⟩:∃k,k=C3 F p1 nk3:=⟨_,rfl⟩
   replace h:Co F p1 k3 a8 a4=some res:=by rw [hk3];exact h
   rw [Co] at h
   refine esr ?_
   refine rn 1 1 [(0,pb cb0),(3,pb b3),(30,sb a0 3),(31,iv ((3:Nat):Int)),(32,iv a4),(33,.bool (decide (a4<((3:Nat):Int))))] hF fun a hF=>?_
   refine wfn rfl ?_
   refine B0 ?_
   refine As hF rfl (fun hc=>?_) (fun hc=>?_)
   ·replace h:=Ao h hc
    refine wpIn_skip (A1 ?_)
    refine B0 ?_
    refine wpIn_block ?_
    refine esr ?_
    replace h:=A4 h
    obtain ⟨a2,b5,h⟩:=h
    refine rno 2 [.run [] (Instr.indexAt 42 (sb a0 3) (iv a4)) (.pointer (some (Ag (some ⟨a0,0,none⟩) a4 2))),.run [] (Instr.loadAt 85 (.pointer (some (Ag (some ⟨a0,0,none⟩) a4 2)))) (.agg #[iv a2.Lo,iv a2.Hi])] 2 [(0,pb cb0),(3,pb b3),(30,sb a0 3),(31,iv ((3:Nat):Int)),(32,iv a4),(35,.agg #[iv a2.Lo,iv a2.Hi])] hF (A0 (Bc (hS.arr (i:=1) rfl) kr (fun _=>b5)) (A0 (Ft (m:=2) (i:=a4) (us:=[iv a2.Lo,iv a2.Hi]) 0 api_Span.cells_len (fun _ hd=>((hS.at_ hd).arr (i:=1) rfl)) kr (fun _=>b5) ⟨rfl,rfl⟩) Aa)) fun a hF=>?_
    refine SK.wi (Bs (t:=85) (fun aI=>[(0,pb cb0),(3,pb b3),(6,pb aI),(30,sb a0 3),(31,iv ((3:Nat):Int)),(32,iv a4),(35,.agg #[iv a2.Lo,iv a2.Hi])]) #[iv 0,iv 0] hF hS kr ⟨kr⟩ kr (fun _=>⟨kr⟩) fun aI w a hF hS=>?_)
    refine SK.wi (Ap (t:=85) [(0,pb cb0),(3,pb b3),(6,pb aI),(30,sb a0 3),(31,iv ((3:Nat):Int)),(32,iv a4)] 0 0 (.agg #[iv a2.Lo,iv a2.Hi]) #[iv a2.Lo,iv a2.Hi] hF hS rfl kr ⟨kr⟩ kr kr kr kr ⟨kr⟩ fun w a hF hS=>?_)
    refine wfn rfl ?_
    refine WI.region ?_
    refine rno 2 [.run [] (Instr.loadAt 85 (pb aI)) (.agg #[iv a2.Lo,iv a2.Hi])] 2 [(0,pb cb0),(3,pb b3),(30,sb a0 3),(31,iv ((3:Nat):Int)),(32,iv a4),(36,pb cb0),(37,.agg #[iv a2.Lo,iv a2.Hi])] hF (A0 (obN (us:=[iv a2.Lo,iv a2.Hi]) kr (fun _ hd=>((hS.at_ hd).blk (i:=0) rfl).cells rfl)) Aa) fun a hF=>?_
    replace h:=A4 h
    obtain ⟨bU,bJ,h⟩:=h
    replace hS:=hS.s1.s4.s4
    refine SK.wi (Bz (fun bQ=>[(0,pb cb0),(3,pb b3),(30,sb a0 3),(31,iv ((3:Nat):Int)),(32,iv a4)]) hF kr ⟨kr⟩ (H7 F _ _ _ bJ ν149 w0 w _ hlow  hS) (fun _=>⟨kr⟩) ?_)
    rintro bQ w a ⟨ν159,bA,bE,aL,hlow,rfl,hS⟩ hF
    replace hext:=Frz.ext_trans hext aL
    replace hA8:=hA8.mono aL.1
    replace a9:=Frz.le_trans a9 aL.1
    replace aC:=Frz.le_trans aC aL.1
    refine WI.fin rfl (Ac<|A1<|?_)
    refine WI.region ?_
    replace h:=A4 h
    obtain ⟨aT,bH,h⟩:=h
    refine rno 2 [.run [] (binOp .add 3 (iv a4) (iv 1)) (iv aT)] 2 [(0,pb cb0),(3,pb b3),(30,sb a0 3),(31,iv ((3:Nat):Int)),(32,iv aT)] hF (A0 (Aw (fun _=>bH)) Aa) fun a hF=>?_
    refine wfn rfl ?_
    rw [hk3] at h
    exact ⟨nk3,Nat.lt_succ_self _,bU.b,aT,ν159,bA,bE,hF.sub kr,hS.d3.s3.s3,aC,hext,hlow,h⟩
   ·replace h:=An h hc
    refine wpIn_exit (Ad<|Ad<|Bb<|A1 ?_)
    exact ⟨a8,ν149,aG,aK,hF.sub kr,hS,a9,hext,hlow,h⟩
  clear a9
  rintro a w ⟨aE,ν67,aN,aO,hF,hS,a6,hext,hlow,h⟩
  replace hA8:=hA8.mono a6
  rw [Fj] at h
  refine esr ?_
  refine rno 3 [.run [] (Instr.loadAt 3 (.pointer (some ⟨b3,7,none⟩))) (iv p1.Spread)] 3 [(0,pb cb0),(3,pb b3),(40,pb cb0),(42,iv p1.Spread)] hF (A0 (ob1 kr (fun _ hd=>(hS.at_ hd).cell (i:=4) (j:=7) rfl rfl)) Aa) fun a hF=>?_
  refine SK.wi (G0 (e:=3) (sz:=1) (f:=fI) (t:=51) (len:=1) (fun aX=>[(0,pb cb0),(3,pb b3),(40,pb cb0),(43,sb aX 1)]) #[(0,iv p1.Spread)] #[iv p1.Spread] ([p1.Spread]) hF hS kr ⟨kr⟩ kr Ee rfl rfl kr (fun _=>⟨kr⟩) fun aX w a hF hS=>?_)
  obtain ⟨ν73,aR,hlow,hS,bN⟩:=hS.freeze (i:=3) (j:=0) rfl rfl (by decide) hlow
  replace hA8:=hA8.mono aR.1
  replace a6:=Frz.le_trans a6 aR.1
  replace hext:=Frz.ext_trans hext aR
  have a7:=ArrM.of_arr bN
  replace h:=A4 h
  obtain ⟨bV,bL,h⟩:=h
  replace hS:=hS.s3.s3
  refine SK.wi (Bz (fun bS=>[(0,pb cb0),(3,pb b3)]) hF kr ⟨kr⟩ (Ax F _ _ _ bL ν73 w0 w _ hlow a7 hS) (fun _=>⟨kr⟩) ?_)
  rintro bS w a ⟨ν78,aV,aZ,aM,hlow,rfl,hS⟩ hF
  replace hext:=Frz.ext_trans hext aM
  replace hA8:=hA8.mono aM.1
  replace a7:=a7.mono aM.1
  replace a6:=Frz.le_trans a6 aM.1
  refine wfn rfl ?_
  refine esr ?_
  refine rno 3 [.run [] (Instr.loadAt 3 (pb b3)) (iv p1.Kind)] 3 [(0,pb cb0),(3,pb b3),(47,.bool (p1.Kind==3))] hF (A0 (ob1 kr (fun _ hd=>(hS.at_ hd).cell (i:=4) (j:=0) rfl rfl)) Aa) fun a hF=>?_
  refine wfn rfl ?_
  refine As hF rfl (fun hc=>?_) (fun hc=>?_)
  ·replace h:=Ao h hc
   refine esr ?_
   refine rno 8 [.run [] (Instr.indexAt 86 (.pointer (some ⟨b3,3,none⟩)) (iv 0)) (.pointer (some ⟨b3,3,none⟩)),.run [] (Instr.loadAt 85 (.pointer (some ⟨b3,3,none⟩))) (.agg #[iv p1.Steps.1.Lo,iv p1.Steps.1.Hi]),.run [] (Instr.indexAt 86 (.pointer (some ⟨b3,3,none⟩)) (iv 1)) (.pointer (some ⟨b3,5,none⟩)),.run [] (Instr.loadAt 85 (.pointer (some ⟨b3,5,none⟩))) (.agg #[iv p1.Steps.2.Lo,iv p1.Steps.2.Hi]),.run [] (Instr.loadAt 85 (.pointer (some ⟨b3,12,none⟩))) (.agg #[iv p1.Turn.Lo,iv p1.Turn.Hi])] 8 [(0,pb cb0),(50,.agg #[iv p1.Steps.1.Lo,iv p1.Steps.1.Hi]),(53,.agg #[iv p1.Steps.2.Lo,iv p1.Steps.2.Hi]),(55,.agg #[iv p1.Turn.Lo,iv p1.Turn.Hi])] hF (A0 (Ca kr) (A0 (obN (us:=[iv p1.Steps.1.Lo,iv p1.Steps.1.Hi]) kr (fun _ hd=>((hS.at_ hd).blk (i:=4) rfl).cells rfl)) (A0 (Ca kr) (A0 (obN (us:=[iv p1.Steps.2.Lo,iv p1.Steps.2.Hi]) kr (fun _ hd=>((hS.at_ hd).blk (i:=4) rfl).cells rfl)) (A0 (obN (us:=[iv p1.Turn.Lo,iv p1.Turn.Hi]) kr (fun _ hd=>((hS.at_ hd).blk (i:=4) rfl).cells rfl)) Aa))))) fun a hF=>?_
   refine SK.wi (G0 (e:=85) (sz:=2) (f:=api_Span.cells) (t:=42) (len:=3) (fun a5=>[(0,pb cb0),(56,sb a5 3)]) #[(0,.agg #[iv p1.Steps.1.Lo,iv p1.Steps.1.Hi]),(1,.agg #[iv p1.Steps.2.Lo,iv p1.Steps.2.Hi]),(2,.agg #[iv p1.Turn.Lo,iv p1.Turn.Hi])] #[iv p1.Steps.1.Lo,iv p1.Steps.1.Hi,iv p1.Steps.2.Lo,iv p1.Steps.2.Hi,iv p1.Turn.Lo,iv p1.Turn.Hi] ([(api_Span.mk p1.Steps.1.Lo p1.Steps.1.Hi),(api_Span.mk p1.Steps.2.Lo p1.Steps.2.Hi),p1.Turn]) hF hS kr ⟨kr⟩ kr api_Span.cells_len rfl rfl kr (fun _=>⟨kr⟩) fun a5 w a hF hS=>?_)
   refine rn 2 11 [(0,pb cb0),(56,sb a5 3),(57,iv ((3:Nat):Int)),(58,iv 0)] hF fun a hF=>?_
   refine wfn rfl ?_
   refine wpIn_block ?_
   have b0:=Frz.le_refl ν78
   refine E4 (fun n_ a w=>∃(aB:(List Int)) (a3:Int) (ν108:Frz) (aF:Option Addr) (aJ:Nat),Fr 66 [] [(0,pb cb0),(56,sb a5 3),(57,iv ((3:Nat):Int)),(58,iv a3)] a∧St w0 (arrT 5 1 (fK .u8) aF aB.length aJ aB::arr 85 2 api_Span.cells (some ⟨a5,0,none⟩) ([(api_Span.mk p1.Steps.1.Lo p1.Steps.1.Hi),(api_Span.mk p1.Steps.2.Lo p1.Steps.2.Hi),p1.Turn]).length 3 ([(api_Span.mk p1.Steps.1.Lo p1.Steps.1.Hi),(api_Span.mk p1.Steps.2.Lo p1.Steps.2.Hi),p1.Turn])::fz w0 ν108::blk cb0 106 #[sv aF aB aJ]::arr 85 2 api_Span.cells (some ⟨a0,0,none⟩) ([p1.Power,p1.Ratio,p1.Match]).length 3 ([p1.Power,p1.Ratio,p1.Match])::blk b3 88 p1.ar::T_) w∧(ν78.le ν108)∧(μ.ext w0.heap.size ν108)∧(Ba w0 ν108)∧C2 F p1 n_ aB a3=some res) F ⟨bV.b,0,ν78,aV,aZ,hF.sub kr,hS.s3,b0,hext,hlow,h⟩ ?_
   clear b0
   rintro nk2 a w ⟨aB,a3,ν108,aF,aJ,hF,hS,aA,hext,hlow,h⟩
   rcases nk2 with _|nk2
   ·cases (show (none:Option volume_writer)=some res from h)
   replace hA8:=hA8.mono aA
   replace a7:=a7.mono aA
   replace a6:=Frz.le_trans a6 aA
   obtain ⟨k2,hk2⟩:∃k,k=C2 F p1 nk2:=⟨_,rfl⟩
   replace h:Cn F p1 k2 aB a3=some res:=by rw [hk2];exact h
   rw [Cn] at h
   refine esr ?_
   refine rn 1 1 [(0,pb cb0),(56,sb a5 3),(57,iv ((3:Nat):Int)),(58,iv a3),(59,.bool (decide (a3<((3:Nat):Int))))] hF fun a hF=>?_
   refine wfn rfl ?_
   refine B0 ?_
   refine As hF rfl (fun hc=>?_) (fun hc=>?_)
   ·replace h:=Ao h hc
    refine wpIn_skip (A1 ?_)
    refine B0 ?_
    refine wpIn_block ?_
    refine esr ?_
    replace h:=A4 h
    obtain ⟨a1,b2,h⟩:=h
    refine rno 2 [.run [] (Instr.indexAt 42 (sb a5 3) (iv a3)) (.pointer (some (Ag (some ⟨a5,0,none⟩) a3 2))),.run [] (Instr.loadAt 85 (.pointer (some (Ag (some ⟨a5,0,none⟩) a3 2)))) (.agg #[iv a1.Lo,iv a1.Hi])] 2 [(0,pb cb0),(56,sb a5 3),(57,iv ((3:Nat):Int)),(58,iv a3),(61,.agg #[iv a1.Lo,iv a1.Hi])] hF (A0 (Bc (hS.arr (i:=1) rfl) kr (fun _=>b2)) (A0 (Ft (m:=2) (i:=a3) (us:=[iv a1.Lo,iv a1.Hi]) 0 api_Span.cells_len (fun _ hd=>((hS.at_ hd).arr (i:=1) rfl)) kr (fun _=>b2) ⟨rfl,rfl⟩) Aa)) fun a hF=>?_
    refine SK.wi (Bs (t:=85) (fun aH=>[(0,pb cb0),(8,pb aH),(56,sb a5 3),(57,iv ((3:Nat):Int)),(58,iv a3),(61,.agg #[iv a1.Lo,iv a1.Hi])]) #[iv 0,iv 0] hF hS kr ⟨kr⟩ kr (fun _=>⟨kr⟩) fun aH w a hF hS=>?_)
    refine SK.wi (Ap (t:=85) [(0,pb cb0),(8,pb aH),(56,sb a5 3),(57,iv ((3:Nat):Int)),(58,iv a3)] 0 0 (.agg #[iv a1.Lo,iv a1.Hi]) #[iv a1.Lo,iv a1.Hi] hF hS rfl kr ⟨kr⟩ kr kr kr kr ⟨kr⟩ fun w a hF hS=>?_)
    refine wfn rfl ?_
    refine WI.region ?_
    refine rno 2 [.run [] (Instr.loadAt 85 (pb aH)) (.agg #[iv a1.Lo,iv a1.Hi])] 2 [(0,pb cb0),(56,sb a5 3),(57,iv ((3:Nat):Int)),(58,iv a3),(62,pb cb0),(63,.agg #[iv a1.Lo,iv a1.Hi])] hF (A0 (obN (us:=[iv a1.Lo,iv a1.Hi]) kr (fun _ hd=>((hS.at_ hd).blk (i:=0) rfl).cells rfl)) Aa) fun a hF=>?_
    replace h:=A4 h
    obtain ⟨bT,bI,h⟩:=h
    replace hS:=hS.s1.s4.s4
    refine SK.wi (Bz (fun bP=>[(0,pb cb0),(56,sb a5 3),(57,iv ((3:Nat):Int)),(58,iv a3)]) hF kr ⟨kr⟩ (H7 F _ _ _ bI ν108 w0 w _ hlow  hS) (fun _=>⟨kr⟩) ?_)
    rintro bP w a ⟨ν118,b8,bC,aD,hlow,rfl,hS⟩ hF
    replace hext:=Frz.ext_trans hext aD
    replace hA8:=hA8.mono aD.1
    replace a7:=a7.mono aD.1
    replace a6:=Frz.le_trans a6 aD.1
    replace aA:=Frz.le_trans aA aD.1
    refine WI.fin rfl (Ac<|A1<|?_)
    refine WI.region ?_
    replace h:=A4 h
    obtain ⟨aS,bG,h⟩:=h
    refine rno 2 [.run [] (binOp .add 3 (iv a3) (iv 1)) (iv aS)] 2 [(0,pb cb0),(56,sb a5 3),(57,iv ((3:Nat):Int)),(58,iv aS)] hF (A0 (Aw (fun _=>bG)) Aa) fun a hF=>?_
    refine wfn rfl ?_
    rw [hk2] at h
    exact ⟨nk2,Nat.lt_succ_self _,bT.b,aS,ν118,b8,bC,hF.sub kr,hS.d3.s3.s3,aA,hext,hlow,h⟩
   ·replace h:=An h hc
    refine wpIn_exit (Ad<|Ad<|Bb<|?_)
    refine Hm hF rfl ?_
    have hr_:=Option.some.inj h
    subst hr_
    replace hS:=hS.d5.d4.d1.s2.s2
    exact ⟨_,rfl,ν108,aF,aJ,hext,hlow,rfl,hS⟩
  ·replace h:=An h hc
   refine wpIn_skip ?_
   refine Hm hF rfl ?_
   have hr_:=Option.some.inj h
   subst hr_
   replace hS:=hS.d4.d3
   exact ⟨_,rfl,ν78,aV,aZ,hext,hlow,rfl,hS⟩
theorem Js (F:Nat) (p0:volume_writer) (p1:(List api_Span)) (p2:api_Span) (res:volume_writer) (h:Ce F p0 p1 p2=some res) (μ:Frz) (w0 w1:World) (T_:List Res) (hlow:Ba w0 μ) {cb0:Nat} {ad1:Option Addr} {cap2:Nat} {ad3:Option Addr} {cap4:Nat} (hA5:ArrM μ 2 api_Span.cells ad3 cap4 p1) (hS:St w0 (fz w0 μ::blk cb0 106 #[sv ad1 p0.b cap2]::arrT 5 1 (fK .u8) ad1 p0.b.length cap2 p0.b::T_) w1):Dd Try.prog 105 #[pb cb0,sv ad3 p1 cap4,.agg #[iv p2.Lo,iv p2.Hi],.func (.func 96) #[pb cb0] #[]] w1 (fun e w=>∃(ν_:Frz) (aQ:Option Addr) (aS:Nat),μ.ext w0.heap.size ν_∧Ba w0 ν_∧e=(.tuple #[])∧St w0 (fz w0 ν_::blk cb0 106 #[sv aQ res.b aS]::arrT 5 1 (fK .u8) aQ res.b.length aS res.b::T_) w):=by
 rw [Ce] at h
 have hext:=Frz.ext_refl w0.heap.size μ
 refine Aq Try.func105 rfl 44 [(0,pb cb0),(1,sv ad3 p1 cap4),(2,.agg #[iv p2.Lo,iv p2.Hi]),(3,.func (.func 96) #[pb cb0] #[])] rfl rfl kr fun a w hw hF=>?_
 replace hS:=hS.cast hw
 clear hw
 refine esr ?_
 refine SK.wi (H4 (t:=85) (fun b6=>[(0,pb cb0),(1,sv ad3 p1 cap4),(3,.func (.func 96) #[pb cb0] #[]),(6,pb b6)]) (.agg #[iv p2.Lo,iv p2.Hi]) #[iv p2.Lo,iv p2.Hi] hF hS kr ⟨kr⟩ kr (fun _=>⟨kr⟩) fun b6 w a hF hS=>?_)
 refine wfn rfl ?_
 refine wpIn_block ?_
 have aT:=Frz.le_refl μ
 refine E4 (fun n_ a w=>∃(a6:Int) (a7:Int) (a5:(List Int)) (a3:(List api_Span)) (ν108:Frz) (aD:Option Addr) (aE:Nat) (a2:Option Addr) (a0:Nat),Fr 44 [] [(0,pb cb0),(1,sv a2 a3 a0),(3,.func (.func 96) #[pb cb0] #[]),(6,pb b6)] a∧St w0 (arrT 5 1 (fK .u8) aD a5.length aE a5::blk b6 85 #[iv a6,iv a7]::fz w0 ν108::blk cb0 106 #[sv aD a5 aE]::T_) w∧(ArrM ν108 2 api_Span.cells a2 a0 a3)∧(μ.le ν108)∧(μ.ext w0.heap.size ν108)∧(Ba w0 ν108)∧Be F n_ a6 a7 a5 a3=some res) F ⟨p2.Lo,p2.Hi,p0.b,p1,μ,ad1,cap2,ad3,cap4,hF.sub kr,hS.s3,hA5,aT,hext,hlow,h⟩ ?_
 clear aT
 rintro nk1 a w ⟨a6,a7,a5,a3,ν108,aD,aE,a2,a0,hF,hS,a9,aC,hext,hlow,h⟩
 rcases nk1 with _|nk1
 ·cases (show (none:Option volume_writer)=some res from h)
 replace hA5:=hA5.mono aC
 obtain ⟨k1,hk1⟩:∃k,k=Be F nk1:=⟨_,rfl⟩
 replace h:Bw F k1 a6 a7 a5 a3=some res:=by rw [hk1];exact h
 rw [Bw] at h
 refine B0 ?_
 refine esr ?_
 refine rn 3 3 [(0,pb cb0),(1,sv a2 a3 a0),(3,.func (.func 96) #[pb cb0] #[]),(6,pb b6),(11,.bool (decide ((ln a3)>0)))] hF fun a hF=>?_
 refine wfn rfl ?_
 refine As hF rfl (fun hc=>?_) (fun hc=>?_)
 ·replace h:=Ao h hc
  refine wpIn_skip (A1 ?_)
  refine wpIn_block ?_
  refine esr ?_
  refine rn 1 1 [(0,pb cb0),(1,sv a2 a3 a0),(3,.func (.func 96) #[pb cb0] #[]),(6,pb b6),(8,iv 0)] hF fun a hF=>?_
  refine wfn rfl ?_
  refine Ei (fun a w=>∃(a1:Int),Fr 44 [] [(0,pb cb0),(1,sv a2 a3 a0),(3,.func (.func 96) #[pb cb0] #[]),(6,pb b6),(8,iv a1)] a∧St w0 (arrT 5 1 (fK .u8) aD a5.length aE a5::blk b6 85 #[iv a6,iv a7]::fz w0 ν108::blk cb0 106 #[sv aD a5 aE]::T_) w∧Bx F a6 a7 a5 a3 k1 a1=some res) ?_ ?_
  ·skip
   refine wpIn_block ?_
   refine E4 (fun n_ a w=>∃(a8:Int),Fr 44 [] [(0,pb cb0),(1,sv a2 a3 a0),(3,.func (.func 96) #[pb cb0] #[]),(6,pb b6),(8,iv a8)] a∧St w0 (arrT 5 1 (fK .u8) aD a5.length aE a5::blk b6 85 #[iv a6,iv a7]::fz w0 ν108::blk cb0 106 #[sv aD a5 aE]::T_) w∧Bl F a6 a7 a5 a3 k1 n_ a8=some res) F ⟨0,hF.sub kr,hS,h⟩ ?_
   rintro nk3 a w ⟨a8,hF,hS,h⟩
   rcases nk3 with _|nk3
   ·cases (show (none:Option volume_writer)=some res from h)
   obtain ⟨k3,hk3⟩:∃k,k=Bl F a6 a7 a5 a3 k1 nk3:=⟨_,rfl⟩
   replace h:Cu F a6 a7 a5 a3 k1 k3 a8=some res:=by rw [hk3];exact h
   rw [Cu] at h
   refine B0 ?_
   refine B0 ?_
   replace h:=A4 h
   obtain ⟨aB,aX,h⟩:=h
   refine Po (obs:=[.run [⟨16,true,(decide (a8<(ln a3)))⟩] (Instr.indexAt 42 (sv a2 a3 a0) (iv a8)) (.pointer (some (Ag a2 a8 2))),.run [⟨16,true,(decide (a8<(ln a3)))⟩] (Instr.loadAt 85 (.pointer (some (Ag a2 a8 2)))) (.agg #[iv aB.Lo,iv aB.Hi]),.run [⟨16,true,(decide (a8<(ln a3)))⟩] (Instr.loadAt 85 (pb b6)) (.agg #[iv a6,iv a7]),.run [⟨16,true,(decide (a8<(ln a3)))⟩] (eqS .eql 85 #[iv aB.Lo,iv aB.Hi] #[iv a6,iv a7]) (.bool (((aB.Lo:Int)==a6)&&(((aB.Hi:Int)==a7)&&true)))]) 12 [(0,pb cb0),(1,sv a2 a3 a0),(3,.func (.func 96) #[pb cb0] #[]),(6,pb b6),(8,iv a8),(23,.bool (bif (decide (a8<(ln a3))) then (((aB.Lo:Int)==a6)&&(((aB.Hi:Int)==a7)&&true)) else false))] kr hF kr (A0 (Bc (a9 _ (hS.frz (i:=2) rfl hlow)) kr (fun hk=>E3 aX hk)) (A0 (Ft (m:=2) (i:=a8) (us:=[iv aB.Lo,iv aB.Hi]) 0 api_Span.cells_len (fun _ hd=>(a9 _ ((hS.later hd).frz (i:=2) rfl hlow))) kr (fun hk=>E3 aX hk) ⟨rfl,rfl⟩) (A0 (obN (us:=[iv a6,iv a7]) kr (fun _ hd=>((hS.later hd).blk (i:=1) rfl).cells rfl)) (A0 (Mo kr kr) Aa)))) ⟨kr⟩ fun a w hF hx=>?_
   replace hS:=hS.later hx
   refine wfn rfl ?_
   refine As hF rfl (fun hc=>?_) (fun hc=>?_)
   ·replace h:=Ao h hc
    refine wpIn_skip (A1 ?_)
    refine wpIn_block ?_
    refine WI.region ?_
    replace h:=A4 h
    obtain ⟨aP,b0,h⟩:=h
    refine rno 3 [.run [] (binOp .add 3 (iv a8) (iv 1)) (iv aP)] 3 [(0,pb cb0),(1,sv a2 a3 a0),(3,.func (.func 96) #[pb cb0] #[]),(6,pb b6),(8,iv aP)] hF (A0 (Aw (fun _=>b0)) Aa) fun a hF=>?_
    refine WI.fin rfl (Ac<|A1<|?_)
    rw [hk3] at h
    exact ⟨nk3,Nat.lt_succ_self _,aP,hF.sub kr,hS,h⟩
   ·replace h:=An h hc
    refine wpIn_exit (Ad<|Ad<|Bb<|A1 ?_)
    exact ⟨a8,hF.sub kr,hS,h⟩
  rintro a w ⟨a1,hF,hS,h⟩
  rw [Bx] at h
  refine esr ?_
  refine rn 2 2 [(0,pb cb0),(1,sv a2 a3 a0),(3,.func (.func 96) #[pb cb0] #[]),(6,pb b6),(8,iv a1),(26,pb cb0),(27,iv a1)] hF fun a hF=>?_
  refine SK.wi (G0 (e:=3) (sz:=1) (f:=fI) (t:=51) (len:=1) (fun aR=>[(0,pb cb0),(1,sv a2 a3 a0),(3,.func (.func 96) #[pb cb0] #[]),(6,pb b6),(8,iv a1),(26,pb cb0),(28,sb aR 1)]) #[(0,iv a1)] #[iv a1] ([a1]) hF hS kr ⟨kr⟩ kr Ee rfl rfl kr (fun _=>⟨kr⟩) fun aR w a hF hS=>?_)
  obtain ⟨ν131,aK,hlow,hS,b3⟩:=hS.freeze (i:=3) (j:=0) rfl rfl (by decide) hlow
  replace hA5:=hA5.mono aK.1
  replace a9:=a9.mono aK.1
  replace aC:=Frz.le_trans aC aK.1
  replace hext:=Frz.ext_trans hext aK
  have aI:=ArrM.of_arr b3
  replace h:=A4 h
  obtain ⟨aL,b1,h⟩:=h
  replace hS:=hS.s3.s3
  refine SK.wi (Bz (fun b4=>[(0,pb cb0),(1,sv a2 a3 a0),(3,.func (.func 96) #[pb cb0] #[]),(6,pb b6),(8,iv a1)]) hF kr ⟨kr⟩ (Ax F _ _ _ b1 ν131 w0 w _ hlow aI hS) (fun _=>⟨kr⟩) ?_)
  rintro b4 w a ⟨ν136,aM,aN,aJ,hlow,rfl,hS⟩ hF
  replace hext:=Frz.ext_trans hext aJ
  replace hA5:=hA5.mono aJ.1
  replace a9:=a9.mono aJ.1
  replace aI:=aI.mono aJ.1
  replace aC:=Frz.le_trans aC aJ.1
  refine wfn rfl ?_
  refine esr ?_
  replace h:=A4 h
  obtain ⟨aA,aU,h⟩:=h
  have aG:ArrM ν136 2 api_Span.cells (Am a2 a0 a1.toNat 2) (a0-a1.toNat) aA:=fun w_ hw_=>(a9 w_ hw_).cutD api_Span.cells_len aU
  refine rno 4 [.run [] (Instr.sliceAt 42 (sv a2 a3 a0) (some (iv a1)) none none) (.slice (Am a2 a0 a1.toNat 2) aA.length (a0-a1.toNat))] 4 [(0,pb cb0),(1,.slice (Am a2 a0 a1.toNat 2) aA.length (a0-a1.toNat)),(3,.func (.func 96) #[pb cb0] #[]),(6,pb b6)] hF (A0 (M3 kr (a9 _ (hS.frz (i:=0) rfl hlow)) (fun _=>aU)) Aa) fun a hF=>?_
  refine wfn rfl ?_
  refine esr ?_
  refine rn 3 3 [(0,pb cb0),(1,.slice (Am a2 a0 a1.toNat 2) aA.length (a0-a1.toNat)),(3,.func (.func 96) #[pb cb0] #[]),(6,pb b6),(35,.bool (decide ((ln aA)>0)))] hF fun a hF=>?_
  refine wfn rfl ?_
  refine As hF rfl (fun hc=>?_) (fun hc=>?_)
  ·replace h:=Ao h hc
   refine B0 ?_
   replace h:=A4 h
   obtain ⟨a4,aW,h⟩:=h
   replace h:=A4 h
   obtain ⟨aF,aV,h⟩:=h
   refine Cz 7 [5] _ (D:=fun w=>St w0 [blk cb0 106 #[sv aM aL.b aN],arrT 5 1 (fK .u8) aM aL.b.length aN aL.b] w∧FrzAt ν136 w) kr kr hF.size (fun w hx=>?_) (fun _ _ h=>h)
   replace hS:=hS.later hx
   refine ⟨⟨St.pick [1,2] (by decide) hS,hS.frz (i:=0) rfl hlow⟩,?_⟩
   have b8:=Frz.le_refl ν136
   have aO:ArrM ν136 2 api_Span.cells (Am (Am a2 a0 a1.toNat 2) (a0-a1.toNat) (1:Int).toNat 2) ((a0-a1.toNat)-(1:Int).toNat) aF:=fun w_ hw_=>(aG w_ hw_).cutD api_Span.cells_len aV
   refine WT.s [0,1,2,3,4] [5] kr kr ?_
   refine Ek (rest:=[]) (obs:=[.run [] (Instr.indexAt 42 (.slice (Am a2 a0 a1.toNat 2) aA.length (a0-a1.toNat)) (iv 0)) (.pointer (some (Ag (Am a2 a0 a1.toNat 2) 0 2))),.run [] (Instr.loadAt 85 (.pointer (some (Ag (Am a2 a0 a1.toNat 2) 0 2)))) (.agg #[iv a4.Lo,iv a4.Hi]),.run [] (Instr.sliceAt 42 (.slice (Am a2 a0 a1.toNat 2) aA.length (a0-a1.toNat)) (some (iv 1)) none none) (.slice (Am (Am a2 a0 a1.toNat 2) (a0-a1.toNat) (1:Int).toNat 2) aF.length ((a0-a1.toNat)-(1:Int).toNat))]) [0,1,2,3,4] [(0,pb cb0),(1,.slice (Am a2 a0 a1.toNat 2) aA.length (a0-a1.toNat)),(3,.func (.func 96) #[pb cb0] #[]),(6,pb b6),(38,.agg #[iv a4.Lo,iv a4.Hi]),(40,.slice (Am (Am a2 a0 a1.toNat 2) (a0-a1.toNat) (1:Int).toNat 2) aF.length ((a0-a1.toNat)-(1:Int).toNat))] hF kr kr (A0 (Bc (aG _ (hS.frz (i:=0) rfl hlow)) kr (fun _=>aW)) (A0 (Ft (m:=2) (i:=0) (us:=[iv a4.Lo,iv a4.Hi]) 0 api_Span.cells_len (fun _ hd=>(aG _ hd.2)) kr (fun _=>aW) ⟨rfl,rfl⟩) (A0 (M3 kr (aG _ (hS.frz (i:=0) rfl hlow)) (fun _=>aV)) Aa))) ⟨kr⟩ fun a hF=>?_
   refine WRun.fin ?_
   refine all_cons ?_ (Ay)
   refine Ap (t:=85) [(0,pb cb0),(1,.slice (Am a2 a0 a1.toNat 2) aA.length (a0-a1.toNat)),(3,.func (.func 96) #[pb cb0] #[]),(6,pb b6),(40,.slice (Am (Am a2 a0 a1.toNat 2) (a0-a1.toNat) (1:Int).toNat 2) aF.length ((a0-a1.toNat)-(1:Int).toNat))] 3 0 (.agg #[iv a4.Lo,iv a4.Hi]) #[iv a4.Lo,iv a4.Hi] hF hS rfl kr ⟨kr⟩ kr kr kr kr ⟨kr⟩ fun w a hF hS=>⟨⟨St.pick [1,2] (by decide) hS,(hS.frz (i:=0) rfl hlow)⟩,?_⟩
   refine WT.z [6] kr ?_
   refine Ek (rest:=[]) (obs:=[]) [6] [(0,pb cb0),(1,.slice (Am (Am a2 a0 a1.toNat 2) (a0-a1.toNat) (1:Int).toNat 2) aF.length ((a0-a1.toNat)-(1:Int).toNat)),(3,.func (.func 96) #[pb cb0] #[]),(6,pb b6)] hF kr kr Aa ⟨kr⟩ fun a hF=>?_
   refine WRun.fin ?_
   refine wfn rfl ?_
   refine WI.region ?_
   refine rno 2 [.run [] (Instr.loadAt 85 (pb b6)) (.agg #[iv a4.Lo,iv a4.Hi])] 2 [(0,pb cb0),(1,.slice (Am (Am a2 a0 a1.toNat 2) (a0-a1.toNat) (1:Int).toNat 2) aF.length ((a0-a1.toNat)-(1:Int).toNat)),(3,.func (.func 96) #[pb cb0] #[]),(6,pb b6),(41,.func (.func 96) #[pb cb0] #[]),(42,.agg #[iv a4.Lo,iv a4.Hi])] hF (A0 (obN (us:=[iv a4.Lo,iv a4.Hi]) kr (fun _ hd=>((hS.at_ hd).blk (i:=3) rfl).cells rfl)) Aa) fun a hF=>?_
   replace h:=A4 h
   obtain ⟨b7,b2,h⟩:=h
   refine SK.wi (Bz (fun b5=>[(0,pb cb0),(1,.slice (Am (Am a2 a0 a1.toNat 2) (a0-a1.toNat) (1:Int).toNat 2) aF.length ((a0-a1.toNat)-(1:Int).toNat)),(3,.func (.func 96) #[pb cb0] #[]),(6,pb b6)]) hF kr ⟨kr⟩ (H7 F _ _ _ b2 ν136 w0 w _ hlow  hS) (fun _=>⟨kr⟩) ?_)
   rintro b5 w a ⟨ν150,aY,aZ,aH,hlow,rfl,hS⟩ hF
   replace hext:=Frz.ext_trans hext aH
   replace hA5:=hA5.mono aH.1
   replace a9:=a9.mono aH.1
   replace aI:=aI.mono aH.1
   replace aG:=aG.mono aH.1
   replace aO:=aO.mono aH.1
   replace aC:=Frz.le_trans aC aH.1
   refine WI.fin rfl (Ac<|A1<|?_)
   rw [hk1] at h
   exact ⟨nk1,Nat.lt_succ_self _,a4.Lo,a4.Hi,b7.b,aF,ν150,aY,aZ,(Am (Am a2 a0 a1.toNat 2) (a0-a1.toNat) (1:Int).toNat 2),((a0-a1.toNat)-(1:Int).toNat),hF.sub kr,hS.s3.s3,aO,aC,hext,hlow,h⟩
  ·replace h:=An h hc
   refine wpIn_skip (Ac<|A1<|?_)
   rw [hk1] at h
   exact ⟨nk1,Nat.lt_succ_self _,a6,a7,aL.b,aA,ν136,aM,aN,(Am a2 a0 a1.toNat 2),(a0-a1.toNat),hF.sub kr,hS.s3.s3,aG,aC,hext,hlow,h⟩
 ·replace h:=An h hc
  refine wpIn_exit (Ad<|Ad<|Bb<|?_)
  refine Hm hF rfl ?_
  have hr_:=Option.some.inj h
  subst hr_
  replace hS:=hS.d1.s2.s2
  exact ⟨_,rfl,ν108,aD,aE,hext,hlow,rfl,hS⟩
theorem Nn (F:Nat) (p0:volume_field) (p1:volume_writer) (res:volume_writer) (h:Fu F p0 p1=some res) (μ:Frz) (w0 w1:World) (T_:List Res) (hlow:Ba w0 μ) {ad1:Option Addr} {cap2:Nat} {cb1:Nat} {ad4:Option Addr} {cap5:Nat} (hA3:ArrM μ 2 api_Span.cells ad1 cap2 p0.Field.Vals) (hS:St w0 (fz w0 μ::blk cb1 106 #[sv ad4 p1.b cap5]::arrT 5 1 (fK .u8) ad4 p1.b.length cap5 p1.b::T_) w1):Dd Try.prog 103 #[.agg #[.string p0.key,iv p0.time,iv p0.Field.Grid.X,iv p0.Field.Grid.Y,iv p0.Field.Grid.Size,iv p0.Field.Grid.Wide,iv p0.Field.Grid.High,sv ad1 p0.Field.Vals cap2],pb cb1] w1 (fun e w=>∃(ν_:Frz) (aD:Option Addr) (aH:Nat),μ.ext w0.heap.size ν_∧Ba w0 ν_∧e=(.tuple #[])∧St w0 (fz w0 ν_::blk cb1 106 #[sv aD res.b aH]::arrT 5 1 (fK .u8) aD res.b.length aH res.b::T_) w):=by
 rw [Fu] at h
 have hext:=Frz.ext_refl w0.heap.size μ
 refine Aq Try.func103 rfl 50 [(0,.agg #[.string p0.key,iv p0.time,iv p0.Field.Grid.X,iv p0.Field.Grid.Y,iv p0.Field.Grid.Size,iv p0.Field.Grid.Wide,iv p0.Field.Grid.High,sv ad1 p0.Field.Vals cap2]),(1,pb cb1)] rfl rfl kr fun a w hw hF=>?_
 replace hS:=hS.cast hw
 clear hw
 refine esr ?_
 refine SK.wi (H4 (t:=114) (fun b6=>[(1,pb cb1),(2,pb b6)]) (.agg #[.string p0.key,iv p0.time,iv p0.Field.Grid.X,iv p0.Field.Grid.Y,iv p0.Field.Grid.Size,iv p0.Field.Grid.Wide,iv p0.Field.Grid.High,sv ad1 p0.Field.Vals cap2]) #[.string p0.key,iv p0.time,iv p0.Field.Grid.X,iv p0.Field.Grid.Y,iv p0.Field.Grid.Size,iv p0.Field.Grid.Wide,iv p0.Field.Grid.High,sv ad1 p0.Field.Vals cap2] hF hS kr ⟨kr⟩ kr (fun _=>⟨kr⟩) fun b6 w a hF hS=>?_)
 refine wfn rfl ?_
 refine esr ?_
 refine rn 1 1 [(1,pb cb1),(2,pb b6),(4,pb cb1)] hF fun a hF=>?_
 refine SK.wi (G0 (e:=3) (sz:=1) (f:=fI) (t:=51) (len:=1) (fun b7=>[(1,pb cb1),(2,pb b6),(4,pb cb1),(5,sb b7 1)]) #[(0,iv 2)] #[iv 2] ([2]) hF hS kr ⟨kr⟩ kr Ee rfl rfl kr (fun _=>⟨kr⟩) fun b7 w a hF hS=>?_)
 obtain ⟨ν8,hx9,hlow,hS,aQ⟩:=hS.freeze (i:=2) (j:=0) rfl rfl (by decide) hlow
 replace hA3:=hA3.mono hx9.1
 replace hext:=Frz.ext_trans hext hx9
 have a0:=ArrM.of_arr aQ
 replace h:=A4 h
 obtain ⟨bC,aK,h⟩:=h
 replace hS:=hS.s3.s3.s3
 refine SK.wi (Bz (fun aU=>[(1,pb cb1),(2,pb b6)]) hF kr ⟨kr⟩ (Ax F _ _ _ aK ν8 w0 w _ hlow a0 hS) (fun _=>⟨kr⟩) ?_)
 rintro aU w a ⟨ν13,b0,b5,aA,hlow,rfl,hS⟩ hF
 replace hext:=Frz.ext_trans hext aA
 replace hA3:=hA3.mono aA.1
 replace a0:=a0.mono aA.1
 refine wfn rfl ?_
 refine esr ?_
 refine rno 3 [.run [] (Instr.loadAt 9 (pb b6)) (.string p0.key)] 3 [(1,pb cb1),(2,pb b6),(7,pb cb1),(9,.string p0.key)] hF (A0 (ob1 kr (fun _ hd=>(hS.at_ hd).cell (i:=3) (j:=0) rfl rfl)) Aa) fun a hF=>?_
 replace h:=A4 h
 obtain ⟨bD,aL,h⟩:=h
 refine SK.wi (Bz (fun aV=>[(1,pb cb1),(2,pb b6)]) hF kr ⟨kr⟩ (H8 F _ _ _ aL ν13 w0 w _ hlow  hS) (fun _=>⟨kr⟩) ?_)
 rintro aV w a ⟨ν19,b1,b8,aB,hlow,rfl,hS⟩ hF
 replace hext:=Frz.ext_trans hext aB
 replace hA3:=hA3.mono aB.1
 replace a0:=a0.mono aB.1
 refine wfn rfl ?_
 refine esr ?_
 refine rno 3 [.run [] (Instr.loadAt 3 (.pointer (some ⟨b6,1,none⟩))) (iv p0.time)] 3 [(1,pb cb1),(2,pb b6),(11,pb cb1),(13,iv p0.time)] hF (A0 (ob1 kr (fun _ hd=>(hS.at_ hd).cell (i:=3) (j:=1) rfl rfl)) Aa) fun a hF=>?_
 refine SK.wi (G0 (e:=3) (sz:=1) (f:=fI) (t:=51) (len:=1) (fun aE=>[(1,pb cb1),(2,pb b6),(11,pb cb1),(14,sb aE 1)]) #[(0,iv p0.time)] #[iv p0.time] ([p0.time]) hF hS kr ⟨kr⟩ kr Ee rfl rfl kr (fun _=>⟨kr⟩) fun aE w a hF hS=>?_)
 obtain ⟨ν25,aC,hlow,hS,aR⟩:=hS.freeze (i:=1) (j:=0) rfl rfl (by decide) hlow
 replace hA3:=hA3.mono aC.1
 replace a0:=a0.mono aC.1
 replace hext:=Frz.ext_trans hext aC
 have a1:=ArrM.of_arr aR
 replace h:=A4 h
 obtain ⟨bE,aM,h⟩:=h
 refine SK.wi (Bz (fun aW=>[(1,pb cb1),(2,pb b6)]) hF kr ⟨kr⟩ (Ax F _ _ _ aM ν25 w0 w _ hlow a1 hS) (fun _=>⟨kr⟩) ?_)
 rintro aW w a ⟨ν30,b2,b9,a8,hlow,rfl,hS⟩ hF
 replace hext:=Frz.ext_trans hext a8
 replace hA3:=hA3.mono a8.1
 replace a0:=a0.mono a8.1
 replace a1:=a1.mono a8.1
 refine wfn rfl ?_
 refine esr ?_
 refine rno 9 [.run [] (Instr.loadAt 3 (.pointer (some ⟨b6,2,none⟩))) (iv p0.Field.Grid.X),.run [] (Instr.loadAt 3 (.pointer (some ⟨b6,3,none⟩))) (iv p0.Field.Grid.Y)] 9 [(1,pb cb1),(2,pb b6),(16,pb cb1),(20,iv p0.Field.Grid.X),(24,iv p0.Field.Grid.Y)] hF (A0 (ob1 kr (fun _ hd=>(hS.at_ hd).cell (i:=3) (j:=2) rfl rfl)) (A0 (ob1 kr (fun _ hd=>(hS.at_ hd).cell (i:=3) (j:=3) rfl rfl)) Aa)) fun a hF=>?_
 refine SK.wi (G0 (e:=3) (sz:=1) (f:=fI) (t:=51) (len:=2) (fun aF=>[(1,pb cb1),(2,pb b6),(16,pb cb1),(25,sb aF 2)]) #[(0,iv p0.Field.Grid.X),(1,iv p0.Field.Grid.Y)] #[iv p0.Field.Grid.X,iv p0.Field.Grid.Y] ([p0.Field.Grid.X,p0.Field.Grid.Y]) hF hS kr ⟨kr⟩ kr Ee rfl rfl kr (fun _=>⟨kr⟩) fun aF w a hF hS=>?_)
 obtain ⟨ν36,a9,hlow,hS,aS⟩:=hS.freeze (i:=1) (j:=0) rfl rfl (by decide) hlow
 replace hA3:=hA3.mono a9.1
 replace a0:=a0.mono a9.1
 replace a1:=a1.mono a9.1
 replace hext:=Frz.ext_trans hext a9
 have a2:=ArrM.of_arr aS
 replace h:=A4 h
 obtain ⟨bF,aN,h⟩:=h
 refine SK.wi (Bz (fun aX=>[(1,pb cb1),(2,pb b6)]) hF kr ⟨kr⟩ (G1 F _ _ _ aN ν36 w0 w _ hlow a2 hS) (fun _=>⟨kr⟩) ?_)
 rintro aX w a ⟨ν41,b3,bA,a6,hlow,rfl,hS⟩ hF
 replace hext:=Frz.ext_trans hext a6
 replace hA3:=hA3.mono a6.1
 replace a0:=a0.mono a6.1
 replace a1:=a1.mono a6.1
 replace a2:=a2.mono a6.1
 refine wfn rfl ?_
 refine esr ?_
 refine rno 13 [.run [] (Instr.loadAt 3 (.pointer (some ⟨b6,4,none⟩))) (iv p0.Field.Grid.Size),.run [] (Instr.loadAt 3 (.pointer (some ⟨b6,5,none⟩))) (iv p0.Field.Grid.Wide),.run [] (Instr.loadAt 3 (.pointer (some ⟨b6,6,none⟩))) (iv p0.Field.Grid.High)] 13 [(1,pb cb1),(2,pb b6),(27,pb cb1),(31,iv p0.Field.Grid.Size),(35,iv p0.Field.Grid.Wide),(39,iv p0.Field.Grid.High)] hF (A0 (ob1 kr (fun _ hd=>(hS.at_ hd).cell (i:=3) (j:=4) rfl rfl)) (A0 (ob1 kr (fun _ hd=>(hS.at_ hd).cell (i:=3) (j:=5) rfl rfl)) (A0 (ob1 kr (fun _ hd=>(hS.at_ hd).cell (i:=3) (j:=6) rfl rfl)) Aa))) fun a hF=>?_
 refine SK.wi (G0 (e:=3) (sz:=1) (f:=fI) (t:=51) (len:=3) (fun aG=>[(1,pb cb1),(2,pb b6),(27,pb cb1),(40,sb aG 3)]) #[(0,iv p0.Field.Grid.Size),(1,iv p0.Field.Grid.Wide),(2,iv p0.Field.Grid.High)] #[iv p0.Field.Grid.Size,iv p0.Field.Grid.Wide,iv p0.Field.Grid.High] ([p0.Field.Grid.Size,p0.Field.Grid.Wide,p0.Field.Grid.High]) hF hS kr ⟨kr⟩ kr Ee rfl rfl kr (fun _=>⟨kr⟩) fun aG w a hF hS=>?_)
 obtain ⟨ν47,a7,hlow,hS,aT⟩:=hS.freeze (i:=1) (j:=0) rfl rfl (by decide) hlow
 replace hA3:=hA3.mono a7.1
 replace a0:=a0.mono a7.1
 replace a1:=a1.mono a7.1
 replace a2:=a2.mono a7.1
 replace hext:=Frz.ext_trans hext a7
 have a5:=ArrM.of_arr aT
 replace h:=A4 h
 obtain ⟨bG,aO,h⟩:=h
 refine SK.wi (Bz (fun aY=>[(1,pb cb1),(2,pb b6)]) hF kr ⟨kr⟩ (Ax F _ _ _ aO ν47 w0 w _ hlow a5 hS) (fun _=>⟨kr⟩) ?_)
 rintro aY w a ⟨ν52,b4,bB,a3,hlow,rfl,hS⟩ hF
 replace hext:=Frz.ext_trans hext a3
 replace hA3:=hA3.mono a3.1
 replace a0:=a0.mono a3.1
 replace a1:=a1.mono a3.1
 replace a2:=a2.mono a3.1
 replace a5:=a5.mono a3.1
 refine wfn rfl ?_
 refine WI.region ?_
 refine rno 7 [.run [] (Instr.loadAt 42 (.pointer (some ⟨b6,7,none⟩))) (sv ad1 p0.Field.Vals cap2)] 7 [(42,pb cb1),(45,sv ad1 p0.Field.Vals cap2),(46,.agg #[iv 0,iv 0]),(48,.func (.func 96) #[pb cb1] #[])] hF (A0 (ob1 kr (fun _ hd=>(hS.at_ hd).cell (i:=3) (j:=7) rfl rfl)) Aa) fun a hF=>?_
 replace h:=A4 h
 obtain ⟨bH,aP,h⟩:=h
 refine SK.wi (Bz (fun aZ=>[]) hF kr ⟨kr⟩ (Js F _ _ _ _ aP ν52 w0 w _ hlow hA3 hS) (fun _=>⟨kr⟩) ?_)
 rintro aZ w a ⟨ν58,aI,aJ,a4,hlow,rfl,hS⟩ hF
 replace hext:=Frz.ext_trans hext a4
 replace hA3:=hA3.mono a4.1
 replace a0:=a0.mono a4.1
 replace a1:=a1.mono a4.1
 replace a2:=a2.mono a4.1
 replace a5:=a5.mono a4.1
 refine WI.fin rfl ?_
 refine Hm hF rfl ?_
 have hr_:=Option.some.inj h
 subst hr_
 replace hS:=hS.d3
 exact ⟨_,rfl,ν58,aI,aJ,hext,hlow,rfl,hS⟩
end Go.Proofs.Ytifbomimeodibaa
