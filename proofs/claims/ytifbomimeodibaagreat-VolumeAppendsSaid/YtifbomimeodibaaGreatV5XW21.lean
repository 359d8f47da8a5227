import Derived.Test.YtifbomimeodibaaGreatV5XD
import Derived.Test.YtifbomimeodibaaGreatProg
import Derived.Test.YtifbomimeodibaaGreatV5XW0
import Derived.Test.YtifbomimeodibaaGreatV5XW10
import Derived.Test.YtifbomimeodibaaGreatV5XW18
import Derived.Test.YtifbomimeodibaaGreatV5XW19
import Derived.Test.YtifbomimeodibaaGreatV5XW20
namespace Go.Proofs.YtifbomimeodibaaGreat
open Go Go.RowKit Go.Eng
set_option maxRecDepth 10000
set_option maxHeartbeats 4000000
set_option linter.unusedVariables false
set_option linter.unusedSimpArgs false
theorem Ui (F:Nat) (p0:(List Int)) (p1:ref12_Item) (res:((List Int)×Int)) (h:K7 F p0 p1=some res) (μ:Frz) (w0:World) (hm:FrzAt μ w0) {ad1:Option Addr} {cap2:Nat} {ad4:Option Addr} {cap5:Nat} {css6:List (List Value)} {ad7:Option Addr} {cap8:Nat} (hA3:ArrM μ 1 (fK .u8) ad1 cap2 p0) (hA9:ArrQ μ 1 Rp87 ad4 cap5 css6 p1.Sweep.Rays) (a7:ArrM μ 2 api_Span.cells ad7 cap8 p1.Field.Vals):Ba Tryz.prog 24 #[sv ad1 p0 cap2,.agg (p1.ax ad4 cap5 ad7 cap8)] w0 (fun e w=>∃zad0 zcap0,e=(.tuple #[sv zad0 res.1 zcap0,iv res.2])∧St w0 [arr 5 1 (fK .u8) zad0 res.1.length zcap0 res.1] w):=by
 obtain ⟨hlow,hS⟩:=hm.init
 have hext:=Frz.ext_refl w0.heap.size μ
 rw [K7] at h
 refine feW Tryz.func24 46 [(0,sv ad1 p0 cap2),(1,.agg (p1.ax ad4 cap5 ad7 cap8))] hS fun a w hF hS=>?_
 refine esr<|SK.wi (qBa 49 (p1.ax ad4 cap5 ad7 cap8) (fun a1=>[(3,pb a1)]) hF hS fun a1 w a hF hS=>?_)
 refine qn 2 3 [] hF fun a hF=>wfn rfl ?_
 refine esr<|qn 1 1 [(11,sv ad1 p0 cap2)] hF fun a hF=>?_
 obtain ⟨a0,aP,h⟩:=A0 h
 refine SK.wi (qR (fun aJ=>[(12,aJ)]) hF (W0 F _ _ aP μ w (hS.frz (i:=1) rfl hlow) hA3) ?_)
 rintro aJ w a ⟨ν14,aD,aG,aV,a2,rfl,aW,hQ⟩ hF
 replace hext:=hext.t (Frz.ext_mono a2 hS.ext.size)
 obtain ⟨hlow,hS⟩:=hS.frzMerge (i:=1) rfl hlow a2 hQ
 replace hA3:=hA3.mono a2.1
 replace hA9:=hA9.mono Rp87.mono a2.1
 replace a7:=a7.mono a2.1
 refine qn 7 9 [(6,sv aD a0.1 aG),(7,iv a0.2.1),(8,iv a0.2.2)] hF fun a hF=>wfn rfl ?_
 refine Am<|qnB [(21,.bool (bif (a0.2.2 != 0) then (a0.2.2 != 16) else false))] hF fun a hF=>?_
 refine A8 hF h (fun hc h=>?_) fun hc h=>?_
 ·refine rnB [(4,.slice none 0 0),(5,iv a0.2.2)] hF fun a hF=>?_
  refine wpIn_ret (A2<|A7 [.tmp 4,.tmp 5] [_,_] hF rfl ⟨rfl,rfl,trivial⟩ ?_)
  obtain rfl:=Ae h
  replace hS:=hS.nilarr 5 1 (fK .u8)
  exact ⟨_,rfl,_,_,rfl,St.pick [0] (by decide) hS⟩
 ·refine wK<|esr ?_
  obtain ⟨aC,aQ,h⟩:=A0 h
  refine rX 3 3 [(0,sv ad1 p0 cap2),(3,pb a1),(6,sv aD a0.1 aG),(7,iv a0.2.1),(8,iv aC)] hF (oN 49 1 0 21 hS.e rfl<|oC (fun w2 hd=>Ns F p1 _ aQ _ w2 (A4 w2) (hA9.mono Rp87.mono (FrzAt.le_mem ((hS.later hd).frz (i:=2) rfl hlow))) (a7.mono (FrzAt.le_mem ((hS.later hd).frz (i:=2) rfl hlow))))<|A1) fun a w hF hx=>?_
  replace hS:=hS.later hx
  refine wfn rfl ?_
  refine Am<|qnB [(26,.bool (aC != 0))] hF fun a hF=>?_
  refine A8 hF h (fun hc h=>?_) fun hc h=>?_
  ·refine rnB [(4,.slice none 0 0),(5,iv aC)] hF fun a hF=>?_
   refine wpIn_ret (A2<|A7 [.tmp 4,.tmp 5] [_,_] hF rfl ⟨rfl,rfl,trivial⟩ ?_)
   obtain rfl:=Ae h
   replace hS:=hS.nilarr 5 1 (fK .u8)
   exact ⟨_,rfl,_,_,rfl,St.pick [0] (by decide) hS⟩
  ·refine wK<|Am<|rnB [(0,sv ad1 p0 cap2),(3,pb a1),(7,iv a0.2.1),(30,.bool ((ln a0.1)==1000))] hF fun a hF=>?_
   refine A8 hF h (fun hc h=>?_) fun hc h=>?_
   ·refine rnB [(4,.slice none 0 0),(5,iv 13)] hF fun a hF=>?_
    refine wpIn_ret (A2<|A7 [.tmp 4,.tmp 5] [_,_] hF rfl ⟨rfl,rfl,trivial⟩ ?_)
    obtain rfl:=Ae h
    replace hS:=hS.nilarr 5 1 (fK .u8)
    exact ⟨_,rfl,_,_,rfl,St.pick [0] (by decide) hS⟩
   ·refine wK<|esr<|SK.wi (A1i (e:=5) (sz:=1) (f:=(fK .u8)) (t:=22) (len:=0) (fun a9=>[(0,sv ad1 p0 cap2),(3,pb a1),(7,iv a0.2.1),(31,sb a9 0)]) #[] #[] ([]:List Int) hF hS kr ⟨kr⟩ kr (B8 .u8) rfl rfl kr (fun _=>⟨kr⟩) fun a9 w a hF hS=>?_)
    obtain ⟨aA,aI,h⟩:=A0 h
    have aL:ArrM ν14 1 (fK .u8) (Al ad1 cap2 (0:Int).toNat 1) (cap2-(0:Int).toNat) aA:=fun w_ hw_=>(hA3 w_ hw_).cutD (B8 .u8) aI
    refine ro 3 4 [(3,pb a1),(31,sb a9 0),(34,.slice (Al ad1 cap2 (0:Int).toNat 1) aA.length (cap2-(0:Int).toNat))] hF (oX (.run [] (Instr.sliceAt 22 (sv ad1 p0 cap2) none (some (iv a0.2.1)) none) (.slice (Al ad1 cap2 (0:Int).toNat 1) aA.length (cap2-(0:Int).toNat))) (Nl kr (hA3 _ (hS.frz (i:=3) rfl hlow)) (fun _=>aI))<|A1) fun a hF=>?_
    obtain ⟨aS,aM,h⟩:=A0 h
    refine SK.wi (qP 22 22 0 (fun aE aH=>[(35,sv aE aS aH)]) hF hS (aL _ (hS.frz (i:=3) rfl hlow)) aM rfl fun aE aH w a hF hS=>?_)
    refine SK.wi (qL 5 22 1 [0] (fun aF=>[(36,sb aF 1)]) (B8 .u8) hF hS fun aF w a hF hS=>?_)
    obtain ⟨aB,aN,h⟩:=A0 h
    refine SK.wi (qP 22 22 1 (fun a3 a5=>[(37,sv a3 aB a5)]) hF hS (hS.arr (i:=0) rfl) aN rfl fun a3 a5 w a hF hS=>?_)
    refine qn 1 8 [(9,sv a3 aB a5)] hF fun a hF=>wfn rfl ?_
    refine esr<|qo 2 2 [(38,sv a3 aB a5),(39,.agg (p1.ax ad4 cap5 ad7 cap8))] hF (oN 49 3 0 21 hS.i rfl<|A1) fun a hF=>?_
    obtain ⟨aX,aR,h⟩:=A0 h
    refine SK.wi (qR (fun aK=>[(40,aK)]) hF (Vl F _ _ aR (B0 w) w (A4 w) (hA9.mono Rp87.mono (FrzAt.le_mem (hS.frz (i:=4) rfl hlow))) (a7.mono (FrzAt.le_mem (hS.frz (i:=4) rfl hlow)))) ?_)
    rintro aK w a ⟨aT,aU,rfl,hQ⟩ hF
    replace hS:=hS.madeL hQ
    obtain ⟨a8,aO,h⟩:=A0 h
    refine SK.wi (qP 22 22 2 (fun a4 a6=>[(41,sv a4 a8 a6)]) hF hS (hS.arr (i:=0) rfl) aO rfl fun a4 a6 w a hF hS=>?_)
    refine rn 1 5 [(9,sv a4 a8 a6)] hF fun a hF=>wfn rfl ?_
    refine Am<|qnB [(44,.bool (decide ((ln a8)>16777216)))] hF fun a hF=>?_
    refine A8 hF h (fun hc h=>?_) fun hc h=>?_
    ·refine rnB [(4,.slice none 0 0),(5,iv 8)] hF fun a hF=>?_
     refine wpIn_ret (A2<|A7 [.tmp 4,.tmp 5] [_,_] hF rfl ⟨rfl,rfl,trivial⟩ ?_)
     obtain rfl:=Ae h
     replace hS:=hS.nilarr 5 1 (fK .u8)
     exact ⟨_,rfl,_,_,rfl,St.pick [0] (by decide) hS⟩
    ·refine wK<|rnB [(4,sv a4 a8 a6),(5,iv 0)] hF fun a hF=>?_
     refine wpIn_ret (A7 [.tmp 4,.tmp 5] [_,_] hF rfl ⟨rfl,rfl,trivial⟩ ?_)
     obtain rfl:=Ae h
     exact ⟨_,rfl,_,_,rfl,St.pick [2] (by decide) hS⟩
theorem Q6 (F:Nat) (p0:(List Int)) (p1:ref12_Item) (res:Bool) (h:G2 F p0 p1=some res) (μ:Frz) (w0:World) (hm:FrzAt μ w0) {ad1:Option Addr} {cap2:Nat} {ad4:Option Addr} {cap5:Nat} {css6:List (List Value)} {ad7:Option Addr} {cap8:Nat} (hA3:ArrM μ 1 (fK .u8) ad1 cap2 p0) (hA9:ArrQ μ 1 Rp87 ad4 cap5 css6 p1.Sweep.Rays) (a4:ArrM μ 2 api_Span.cells ad7 cap8 p1.Field.Vals):Calls Tryz.prog 5 #[sv ad1 p0 cap2,.agg (p1.ax ad4 cap5 ad7 cap8)] w0 (fun e w=>e=.returned (.bool res)∧Ext w0 w):=by
 obtain ⟨hlow,hS⟩:=hm.init
 have hext:=Frz.ext_refl w0.heap.size μ
 rw [G2] at h
 refine feW Tryz.func5 42 [(0,sv ad1 p0 cap2),(1,.agg (p1.ax ad4 cap5 ad7 cap8))] hS fun a w hF hS=>?_
 refine esr<|SK.wi (qBa 49 (p1.ax ad4 cap5 ad7 cap8) (fun a0=>[(3,pb a0)]) hF hS fun a0 w a hF hS=>?_)
 refine qn 1 2 [] hF fun a hF=>wfn rfl ?_
 refine Am<|esr<|qn 4 4 [(12,.bool (decide ((ln p0)>3000)))] hF fun a hF=>?_
 rcases Bool.eq_false_or_eq_true ((decide ((ln p0)>3000))) with a1|a1
 ·replace h:=Gx h a1
  rw [a1] at hF
  refine qk 5 [(12,.bool true),(13,undef)] hF fun a hF=>?_
  refine qk 6 [(14,undef)] hF fun a hF=>?_
  refine qk 7 [(15,undef)] hF fun a hF=>?_
  refine qk 8 [(16,undef)] hF fun a hF=>?_
  refine qn 1 9 [(17,.bool true)] hF fun a hF=>wfn rfl ?_
  refine wpIn_cond_true (hF.get rfl) ?_
  refine esr ?_
  obtain ⟨aM,aF,h⟩:=A0 h
  refine rX 2 2 [(4,.bool aM)] hF (oC (fun w2 hd=>Nk F  _ aF _ w2 (A4 w2))<|A1) fun a w hF hx=>?_
  replace hS:=hS.later hx
  refine wfn rfl ?_
  refine wpIn_ret (A2<|A7 [.tmp 4] [_] hF rfl ⟨rfl,trivial⟩ ?_)
  obtain rfl:=Ae h
  exact ⟨rfl,hS.ext⟩
 ·replace h:=Gw h a1
  rw [a1] at hF
  refine Zm (n:=1) (obs:=[.run [⟨12,false,false⟩] (Instr.loadAt 49 (pb a0)) (.agg (p1.ax ad4 cap5 ad7 cap8))]) 5 [(0,⟨[],sv ad1 p0 cap2⟩),(3,⟨[],pb a0⟩),(12,⟨[],.bool false⟩),(13,⟨[⟨12,false,false⟩],.agg (p1.ax ad4 cap5 ad7 cap8)⟩)] hF kr (Gq (obN (us:=[iv p1.Kind,.string p1.Name,iv p1.Time,.string p1.Sweep.Site.Name,iv p1.Sweep.Site.X,iv p1.Sweep.Site.Y,iv p1.Sweep.Site.Z,iv p1.Sweep.Site.Rose,iv p1.Sweep.Site.Gates,iv p1.Sweep.Site.Step,iv p1.Sweep.Site.Width,iv p1.Sweep.Tilt,iv p1.Sweep.Time,sv ad4 p1.Sweep.Rays cap5,iv p1.Field.Grid.X,iv p1.Field.Grid.Y,iv p1.Field.Grid.Size,iv p1.Field.Grid.Wide,iv p1.Field.Grid.High,sv ad7 p1.Field.Vals cap8,.string p1.Text]) kr (fun _ hd=>((hS.at_ hd).blk (i:=0) rfl).cells rfl)) A1) ⟨kr⟩ kr rfl fun a hF=>?_
  replace hF:Fr 42 [] [(0,sv ad1 p0 cap2),(3,pb a0),(12,.bool false),(13,.agg (p1.ax ad4 cap5 ad7 cap8))] a:=hF
  have aE:All2 (Rp49 μ) ([[iv p1.Kind,.string p1.Name,iv p1.Time,.string p1.Sweep.Site.Name,iv p1.Sweep.Site.X,iv p1.Sweep.Site.Y,iv p1.Sweep.Site.Z,iv p1.Sweep.Site.Rose,iv p1.Sweep.Site.Gates,iv p1.Sweep.Site.Step,iv p1.Sweep.Site.Width,iv p1.Sweep.Tilt,iv p1.Sweep.Time,sv ad4 p1.Sweep.Rays cap5,iv p1.Field.Grid.X,iv p1.Field.Grid.Y,iv p1.Field.Grid.Size,iv p1.Field.Grid.Wide,iv p1.Field.Grid.High,sv ad7 p1.Field.Vals cap8,.string p1.Text]]:List (List Value)) [p1]:=(All2.cons ⟨ad4,cap5,css6,ad7,cap8,rfl,hA9,a4⟩ All2.nil)
  refine SK.wi (Qn (e:=49) (sz:=21) (f:=fN 21) (t:=28) (len:=1) (fun a5=>[(0,sv ad1 p0 cap2),(3,pb a0),(12,.bool false),(14,sb a5 1)]) #[(0,.agg (p1.ax ad4 cap5 ad7 cap8))] (p1.ax ad4 cap5 ad7 cap8) ([[iv p1.Kind,.string p1.Name,iv p1.Time,.string p1.Sweep.Site.Name,iv p1.Sweep.Site.X,iv p1.Sweep.Site.Y,iv p1.Sweep.Site.Z,iv p1.Sweep.Site.Rose,iv p1.Sweep.Site.Gates,iv p1.Sweep.Site.Step,iv p1.Sweep.Site.Width,iv p1.Sweep.Tilt,iv p1.Sweep.Time,sv ad4 p1.Sweep.Rays cap5,iv p1.Field.Grid.X,iv p1.Field.Grid.Y,iv p1.Field.Grid.Size,iv p1.Field.Grid.Wide,iv p1.Field.Grid.High,sv ad7 p1.Field.Vals cap8,.string p1.Text]]:List (List Value)) ([p1]) hF hS kr ⟨kr⟩ kr (Dg 21) rfl rfl rfl kr (fun _=>⟨kr⟩) fun a5 w a hF hS=>?_)
  obtain ⟨aN,aG,h⟩:=A0 h
  refine rX 3 9 [(0,sv ad1 p0 cap2),(3,pb a0),(17,.bool (!aN))] hF (oGs [⟨12,false,false⟩] (oC (fun w2 hd=>Ug F ([p1]) _ aG _ w2 (A4 w2) (ArrQ.of_own ((hS.later hd).arr (i:=0) rfl) aE Rp49.mono (FrzAt.le_mem ((hS.later hd).frz (i:=2) rfl hlow))))<|A1)<|A1) fun a w hF hx=>?_
  replace hS:=hS.later hx
  refine wfn rfl ?_
  refine A8 hF h (fun hc h=>?_) fun hc h=>?_
  ·refine esr ?_
   obtain ⟨aO,aH,h⟩:=A0 h
   refine rX 2 2 [(4,.bool aO)] hF (oC (fun w2 hd=>Nk F  _ aH _ w2 (A4 w2))<|A1) fun a w hF hx=>?_
   replace hS:=hS.later hx
   refine wfn rfl ?_
   refine wpIn_ret (A2<|A7 [.tmp 4] [_] hF rfl ⟨rfl,trivial⟩ ?_)
   obtain rfl:=Ae h
   exact ⟨rfl,hS.ext⟩
  ·refine wK<|esr<|qo 2 2 [(20,sv ad1 p0 cap2),(21,.agg (p1.ax ad4 cap5 ad7 cap8))] hF (oN 49 1 0 21 hS.i rfl<|A1) fun a hF=>?_
   obtain ⟨a2,aI,h⟩:=A0 h
   refine SK.wi (qR (fun a6=>[(22,a6)]) hF (U4 F _ _ _ aI (B0 w) w (A4 w) (hA3.mono (FrzAt.le_mem (hS.frz (i:=2) rfl hlow))) (hA9.mono Rp87.mono (FrzAt.le_mem (hS.frz (i:=2) rfl hlow))) (a4.mono (FrzAt.le_mem (hS.frz (i:=2) rfl hlow)))) ?_)
   rintro a6 w a ⟨aA,aC,rfl,hQ⟩ hF
   replace hS:=hS.madeL hQ
   refine qn 5 8 [(5,sv aA a2.1 aC),(6,iv a2.2)] hF fun a hF=>wfn rfl ?_
   refine esr<|qo 2 2 [(26,sv ad1 p0 cap2),(27,.agg (p1.ax ad4 cap5 ad7 cap8))] hF (oN 49 2 0 21 hS.i rfl<|A1) fun a hF=>?_
   obtain ⟨a3,aJ,h⟩:=A0 h
   refine SK.wi (qR (fun a7=>[(28,a7)]) hF (Ui F _ _ _ aJ (B0 w) w (A4 w) (hA3.mono (FrzAt.le_mem (hS.frz (i:=3) rfl hlow))) (hA9.mono Rp87.mono (FrzAt.le_mem (hS.frz (i:=3) rfl hlow))) (a4.mono (FrzAt.le_mem (hS.frz (i:=3) rfl hlow)))) ?_)
   rintro a7 w a ⟨aB,aD,rfl,hQ⟩ hF
   replace hS:=hS.madeL hQ
   refine qn 5 8 [(7,sv aB a3.1 aD),(8,iv a3.2)] hF fun a hF=>wfn rfl ?_
   refine esr ?_
   obtain ⟨a8,aK,h⟩:=A0 h
   obtain ⟨a9,aL,h⟩:=A0 h
   refine rX 12 12 [(4,.bool (bif (bif a8 then (a2.2==a3.2) else false) then a9 else false))] hF (oC (fun w2 hd=>Nc F a2.1 a3.1 _ aK _ w2 (A4 w2) (Arr.toM ((hS.later hd).arr (i:=1) rfl)) (Arr.toM ((hS.later hd).arr (i:=0) rfl)))<|oX (.call [⟨39,true,(bif a8 then (a2.2==a3.2) else false)⟩] 8 #[] (.bool a9)) (show Ob.ok _ Ext _ _ from fun hk w2 hd=>Nk F  _ ((fun hk=>Bt aL hk) hk) _ w2 (A4 w2))<|A1) fun a w hF hx=>?_
   replace hS:=hS.later hx
   refine wfn rfl ?_
   refine wpIn_ret (A7 [.tmp 4] [_] hF rfl ⟨rfl,trivial⟩ ?_)
   obtain rfl:=Ae h
   exact ⟨rfl,hS.ext⟩
end Go.Proofs.YtifbomimeodibaaGreat
