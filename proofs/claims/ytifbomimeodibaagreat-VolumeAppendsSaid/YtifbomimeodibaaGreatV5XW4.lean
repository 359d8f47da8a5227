import Derived.Test.YtifbomimeodibaaGreatV5XD
import Derived.Test.YtifbomimeodibaaGreatProg
import Derived.Test.YtifbomimeodibaaGreatV5XW2
namespace Go.Proofs.YtifbomimeodibaaGreat
open Go Go.RowKit Go.Eng
set_option maxRecDepth 10000
set_option maxHeartbeats 4000000
set_option linter.unusedVariables false
set_option linter.unusedSimpArgs false
theorem Kh (F:Nat) (p0:volume_reader) (res:(Int×Bool×volume_reader)) (h:Dj F p0=some res) (μ:Frz) (w0 w1:World) (T_:List Res) (hlow:Ax w0 μ) {cb0:Nat} {ad1:Option Addr} {cap2:Nat} (hA3:ArrM μ 1 (fK .u8) ad1 cap2 p0.b) (hS:St w0 (fz w0 μ::blk cb0 125 #[sv ad1 p0.b cap2]::T_) w1):Ba Tryz.prog 67 #[pb cb0] w1 (fun e w=>∃(ν_:Frz) (a2:Option Addr) (a5:Nat),μ.ext w0.heap.size ν_∧Ax w0 ν_∧e=(.tuple #[iv res.1,.bool res.2.1])∧(ArrM ν_ 1 (fK .u8) a2 a5 res.2.2.b)∧St w0 (fz w0 ν_::blk cb0 125 #[sv a2 res.2.2.b a5]::T_) w):=by
 rw [Dj] at h
 have hext:=Frz.ext_refl w0.heap.size μ
 refine Wd Tryz.func67 rfl 7 [(0,pb cb0)] rfl rfl kr fun a w hw hF=>?_
 replace hS:=hS.cast hw
 clear hw
 refine esr<|rn 1 1 [(0,pb cb0),(2,iv 0)] hF fun a hF=>?_
 refine SK.wi (qA 4 #[.bool false] (fun b4=>[(3,pb b4)]) hF hS fun b4 w a hF hS=>wfn rfl ?_)
 refine esr<|qn 1 1 [(4,.func (.func 89) #[] #[pb b4])] hF fun a hF=>?_
 refine A13 2 ⟨.fn (.func 89) #[pb b4],#[]⟩ [(0,pb cb0),(2,iv 0),(3,pb b4)] hF kr ⟨kr⟩ ⟨kr⟩ rfl fun a hF=>wfn rfl ?_
 refine esr<|rn 1 1 [(2,iv 0),(3,pb b4),(5,pb cb0)] hF fun a hF=>?_
 obtain ⟨y5,hy5,h⟩:=A0 h
 replace hS:=hS.s2.s2
 refine Ee (fun a7=>[(2,iv 0),(3,pb b4),(6,a7)]) hF kr ⟨kr⟩ (Ai F _ _ hy5 μ w0 w _ hlow hA3 hS) (fun _=>⟨kr⟩) ?_ ?_
 ·rintro e7 w he_ ⟨ν14,a1,a4,a6,hlow,a9,hS⟩
  replace h:=H0 h he_
  replace hext:=hext.t a6
  replace hA3:=hA3.mono a6.1
  obtain ⟨aB,aA,h⟩:=A0 h
  rw [Yd aA]
  refine A6<|Sc [.tmp 2,.cell 3 4] hF rfl (fun _=>by kernel_rfl) ?_
  refine CallsDIn.mono (Nn false aB (hS.s2)) ?_
  rintro e u_ w ⟨rfl,hu_,hS⟩
  replace hS:St w0 (blk b4 4 #[.bool false]::fz w0 ν14::blk cb0 125 #[sv a1 e7.2.b a4]::T_) w:=hS
  refine ⟨_,rfl,hu_,[iv 0,.bool false],⟨rfl,⟨_,rfl,Bo kr (hS.cell (i:=0) (j:=0) rfl rfl)⟩,trivial⟩,?_⟩
  obtain rfl:=Ae h
  replace hS:=hS.d0
  exact ⟨_,rfl,ν14,a1,a4,hext,hlow,rfl,a9,hS⟩
 rintro y6 a7 w a he_ ⟨ν8,a0,a3,hx9,hlow,rfl,a8,hS⟩ hF
 replace h:=H3 h he_
 replace hext:=hext.t hx9
 replace hA3:=hA3.mono hx9.1
 refine rn 1 3 [(2,iv y6.1),(3,pb b4)] hF fun a hF=>?_
 refine SK.wi (qs 4 2 0 (.bool true) hF hS rfl fun w a hF hS=>wfn rfl ?_)
 refine wpIn_ret (V4 [.tmp 2,.cell 3 4] hF rfl (fun _=>by kernel_rfl) ?_)
 refine CallsDIn.mono (Nm true (hS.s2)) ?_
 rintro e u_ w ⟨rfl,hu_,hS⟩
 replace hS:St w0 (blk b4 4 #[.bool true]::fz w0 ν8::blk cb0 125 #[sv a0 y6.2.b a3]::T_) w:=hS
 refine ⟨_,rfl,hu_,[iv y6.1,.bool true],⟨rfl,⟨_,rfl,Bo kr (hS.cell (i:=0) (j:=0) rfl rfl)⟩,trivial⟩,?_⟩
 obtain rfl:=Ae h
 replace hS:=hS.d0
 exact ⟨_,rfl,ν8,a0,a3,hext,hlow,rfl,a8,hS⟩
theorem X9 (p0:volume_Item) (res:volume_thing) (h:Dd p0=res) (μ:Frz) (w0:World) (hm:FrzAt μ w0) {ad1:Option Addr} {cap2:Nat} {css3:List (List Value)} {ad4:Option Addr} {cap5:Nat} (hA6:ArrQ μ 1 Rp87 ad1 cap2 css3 p0.Sweep.Rays) (hA7:ArrM μ 2 api_Span.cells ad4 cap5 p0.Field.Vals):Ba Tryz.prog 53 #[.agg (p0.ax ad1 cap2 ad4 cap5)] w0 (fun e w=>∃(ν_:Frz) (aK:Value),μ.ext w0.heap.size ν_∧e=(aK)∧volume_thing.R ν_ aK res∧St w0 [fz w0 ν_] w):=by
 obtain ⟨hlow,hS⟩:=hm.init
 have hext:=Frz.ext_refl w0.heap.size μ
 rw [Dd] at h
 refine feW Tryz.func53 106 [(0,.agg (p0.ax ad1 cap2 ad4 cap5))] hS fun a w hF hS=>?_
 refine esr<|SK.wi (qBa 48 (p0.ax ad1 cap2 ad4 cap5) (fun b8=>[(1,pb b8)]) hF hS fun b8 w a hF hS=>?_)
 refine qn 1 2 [] hF fun a hF=>wfn rfl ?_
 refine qnB [] hF fun a hF=>?_
 refine Am<|qoB [(8,iv p0.Kind)] hF (oL 3 0 0 hS.i rfl rfl<|A1) fun a hF=>?_
 refine wpIn_block<|qnB [(9,.bool (p0.Kind==1))] hF fun a hF=>?_
 refine A8 hF h (fun hc h=>?_) fun hc h=>?_
 ·refine WI.region<|qo 5 5 [(3,.iface 156 (.agg (p0.Sweep.ax ad1 cap2)))] hF (oN 41 0 3 11 hS.i rfl<|A1) fun a hF=>WI.fin rfl (A9<|A3<|?_)
  refine esr<|qn 1 1 [(33,.iface 156 (.agg (p0.Sweep.ax ad1 cap2)))] hF fun a hF=>?_
  refine SK.wi (qR (fun v9=>[(34,v9)]) hF (Mn (volume_sweep.mk p0.Sweep) _ rfl μ w (hS.frz (i:=1) rfl hlow) hA6) ?_)
  rintro v9 w a ⟨ν10,a5,aC,aL,a6,aD,a0,rfl,aO,aP,hQ⟩ hF
  replace hext:=hext.t (Frz.ext_mono a0 hS.ext.size)
  obtain ⟨hlow,hS⟩:=hS.frzMerge (i:=1) rfl hlow a0 hQ
  replace hA6:=hA6.mono Rp87.mono a0.1
  replace hA7:=hA7.mono a0.1
  refine SK.wi (qA 48 z48 (fun a3=>[(4,pb a3),(34,.agg ((Av (volume_sweep.mk p0.Sweep)).ax a5 aC a6 aD))]) hF hS fun a3 w a hF hS=>?_)
  refine SK.wi (qw 48 0 ((Av (volume_sweep.mk p0.Sweep)).ax a5 aC a6 aD) hF hS rfl fun w a hF hS=>wfn rfl ?_)
  refine qoB [(5,.bool (bif (bif (bif p0.Sweep.Site.e0 then (p0.Sweep.Tilt==0) else false) then (p0.Sweep.Time==0) else false) then ((ln p0.Sweep.Rays)==0) else false))] hF (oN 38 1 3 8 hS.i rfl<|oX (.run [] (eqS .eql 38 p0.Sweep.Site.ar z38) (.bool p0.Sweep.Site.e0)) (La kr kr)<|oGs [⟨40,true,p0.Sweep.Site.e0⟩] (oL 3 1 11 hS.i rfl rfl<|A1)<|oGs [⟨46,true,(bif p0.Sweep.Site.e0 then (p0.Sweep.Tilt==0) else false)⟩] (oL 3 1 12 hS.i rfl rfl<|A1)<|oGs [⟨52,true,(bif (bif p0.Sweep.Site.e0 then (p0.Sweep.Tilt==0) else false) then (p0.Sweep.Time==0) else false)⟩] (oL 39 1 13 hS.i rfl rfl<|A1)<|A1) fun a hF=>?_
  refine qoB [(6,.bool (bif p0.Field.Grid.e0 then ((ln p0.Field.Vals)==0) else false))] hF (oN 43 1 14 5 hS.i rfl<|oX (.run [] (eqS .eql 43 p0.Field.Grid.ar z43) (.bool p0.Field.Grid.e0)) (La kr kr)<|oGs [⟨64,true,p0.Field.Grid.e0⟩] (oL 44 1 19 hS.i rfl rfl<|A1)<|A1) fun a hF=>?_
  refine Am<|qnB [(71,.iface 156 (.agg (p0.Sweep.ax ad1 cap2)))] hF fun a hF=>?_
  refine wpIn_block<|qnB [(73,.bool true)] hF fun a hF=>?_
  refine wpIn_cond_true (hF.get rfl) ?_
  refine WI.region<|rn 1 1 [(1,pb b8),(3,.iface 156 (.agg (p0.Sweep.ax ad1 cap2))),(4,pb a3),(5,.bool true),(6,.bool (bif p0.Field.Grid.e0 then ((ln p0.Field.Vals)==0) else false))] hF fun a hF=>WI.fin rfl (A9<|A3<|?_)
  refine Am<|roB [(3,.iface 156 (.agg (p0.Sweep.ax ad1 cap2))),(104,.bool (bif (bif (bif (bif (!(sEq p0.Name (Av (volume_sweep.mk p0.Sweep)).Name)) then true else (p0.Time != (Av (volume_sweep.mk p0.Sweep)).Time)) then true else (!(sEq p0.Text (Av (volume_sweep.mk p0.Sweep)).Text))) then true else false) then true else (!(bif p0.Field.Grid.e0 then ((ln p0.Field.Vals)==0) else false))))] hF (oL 9 1 1 hS.i rfl rfl<|oL 9 0 1 hS.i rfl rfl<|oX (.run [] (Qs .neq 9 p0.Name (Av (volume_sweep.mk p0.Sweep)).Name) (.bool (!(sEq p0.Name (Av (volume_sweep.mk p0.Sweep)).Name)))) S2<|oGs [⟨83,false,(!(sEq p0.Name (Av (volume_sweep.mk p0.Sweep)).Name))⟩] (oL 3 1 2 hS.i rfl rfl<|oL 3 0 2 hS.i rfl rfl<|A1)<|oGs [⟨90,false,(bif (!(sEq p0.Name (Av (volume_sweep.mk p0.Sweep)).Name)) then true else (p0.Time != (Av (volume_sweep.mk p0.Sweep)).Time))⟩] (oL 9 1 20 hS.i rfl rfl<|oL 9 0 20 hS.i rfl rfl<|oX (.run [] (Qs .neq 9 p0.Text (Av (volume_sweep.mk p0.Sweep)).Text) (.bool (!(sEq p0.Text (Av (volume_sweep.mk p0.Sweep)).Text)))) S2<|A1)<|A1) fun a hF=>?_
  refine A8 hF h (fun hc h=>?_) fun hc h=>?_
  ·refine rnB [(2,.nilIface)] hF fun a hF=>?_
   refine wpIn_ret (A2<|A7 [.tmp 2] [_] hF rfl ⟨rfl,trivial⟩ ?_)
   subst h
   exact ⟨_,rfl,ν10,.nilIface,hext,rfl,(show volume_thing.R _ .nilIface .nil_ from rfl),St.pick [2] (by decide) hS⟩
  ·refine wK<|rnB [(2,.iface 156 (.agg (p0.Sweep.ax ad1 cap2)))] hF fun a hF=>?_
   refine wpIn_ret (A7 [.tmp 2] [_] hF rfl ⟨rfl,trivial⟩ ?_)
   subst h
   exact ⟨_,rfl,ν10,(.iface 156 (.agg (p0.Sweep.ax ad1 cap2))),hext,rfl,(show volume_thing.R _ _ (.ic156 (volume_sweep.mk p0.Sweep)) from ⟨[.string p0.Sweep.Site.Name,iv p0.Sweep.Site.X,iv p0.Sweep.Site.Y,iv p0.Sweep.Site.Z,iv p0.Sweep.Site.Rose,iv p0.Sweep.Site.Gates,iv p0.Sweep.Site.Step,iv p0.Sweep.Site.Width,iv p0.Sweep.Tilt,iv p0.Sweep.Time,sv ad1 p0.Sweep.Rays cap2],rfl,⟨ad1,cap2,css3,rfl,hA6⟩⟩),St.pick [2] (by decide) hS⟩
 ·refine qnB [(15,.bool (p0.Kind==2))] hF fun a hF=>?_
  refine A8 hF h (fun hc h=>?_) fun hc h=>?_
  ·refine WI.region<|qo 9 9 [(3,.iface 158 (.agg #[.string p0.Name,iv p0.Time,iv p0.Field.Grid.X,iv p0.Field.Grid.Y,iv p0.Field.Grid.Size,iv p0.Field.Grid.Wide,iv p0.Field.Grid.High,sv ad4 p0.Field.Vals cap5]))] hF (oL 9 0 1 hS.i rfl rfl<|oL 3 0 2 hS.i rfl rfl<|oN 46 0 14 6 hS.i rfl<|A1) fun a hF=>WI.fin rfl (A9<|A3<|?_)
   refine esr<|qn 1 1 [(33,.iface 158 (.agg #[.string p0.Name,iv p0.Time,iv p0.Field.Grid.X,iv p0.Field.Grid.Y,iv p0.Field.Grid.Size,iv p0.Field.Grid.Wide,iv p0.Field.Grid.High,sv ad4 p0.Field.Vals cap5]))] hF fun a hF=>?_
   refine SK.wi (qR (fun aI=>[(34,aI)]) hF (Ml (volume_field.mk p0.Name p0.Time p0.Field) _ rfl μ w (hS.frz (i:=1) rfl hlow) hA7) ?_)
   rintro aI w a ⟨ν21,a7,aE,aM,a8,aF,a1,rfl,aQ,aR,hQ⟩ hF
   replace hext:=hext.t (Frz.ext_mono a1 hS.ext.size)
   obtain ⟨hlow,hS⟩:=hS.frzMerge (i:=1) rfl hlow a1 hQ
   replace hA6:=hA6.mono Rp87.mono a1.1
   replace hA7:=hA7.mono a1.1
   refine SK.wi (qA 48 z48 (fun a4=>[(4,pb a4),(34,.agg ((Au (volume_field.mk p0.Name p0.Time p0.Field)).ax a7 aE a8 aF))]) hF hS fun a4 w a hF hS=>?_)
   refine SK.wi (qw 48 0 ((Au (volume_field.mk p0.Name p0.Time p0.Field)).ax a7 aE a8 aF) hF hS rfl fun w a hF hS=>wfn rfl ?_)
   refine qoB [(5,.bool (bif (bif (bif p0.Sweep.Site.e0 then (p0.Sweep.Tilt==0) else false) then (p0.Sweep.Time==0) else false) then ((ln p0.Sweep.Rays)==0) else false))] hF (oN 38 1 3 8 hS.i rfl<|oX (.run [] (eqS .eql 38 p0.Sweep.Site.ar z38) (.bool p0.Sweep.Site.e0)) (La kr kr)<|oGs [⟨40,true,p0.Sweep.Site.e0⟩] (oL 3 1 11 hS.i rfl rfl<|A1)<|oGs [⟨46,true,(bif p0.Sweep.Site.e0 then (p0.Sweep.Tilt==0) else false)⟩] (oL 3 1 12 hS.i rfl rfl<|A1)<|oGs [⟨52,true,(bif (bif p0.Sweep.Site.e0 then (p0.Sweep.Tilt==0) else false) then (p0.Sweep.Time==0) else false)⟩] (oL 39 1 13 hS.i rfl rfl<|A1)<|A1) fun a hF=>?_
   refine qoB [(6,.bool (bif p0.Field.Grid.e0 then ((ln p0.Field.Vals)==0) else false))] hF (oN 43 1 14 5 hS.i rfl<|oX (.run [] (eqS .eql 43 p0.Field.Grid.ar z43) (.bool p0.Field.Grid.e0)) (La kr kr)<|oGs [⟨64,true,p0.Field.Grid.e0⟩] (oL 44 1 19 hS.i rfl rfl<|A1)<|A1) fun a hF=>?_
   refine Am<|qnB [(71,.iface 158 (.agg #[.string p0.Name,iv p0.Time,iv p0.Field.Grid.X,iv p0.Field.Grid.Y,iv p0.Field.Grid.Size,iv p0.Field.Grid.Wide,iv p0.Field.Grid.High,sv ad4 p0.Field.Vals cap5]))] hF fun a hF=>?_
   refine wpIn_block<|qnB [(73,.bool false)] hF fun a hF=>?_
   refine wpIn_cond_false (hF.get rfl) ?_
   refine qnB [(76,.bool true)] hF fun a hF=>?_
   refine wpIn_cond_true (hF.get rfl) ?_
   refine WI.region<|rn 1 1 [(1,pb b8),(3,.iface 158 (.agg #[.string p0.Name,iv p0.Time,iv p0.Field.Grid.X,iv p0.Field.Grid.Y,iv p0.Field.Grid.Size,iv p0.Field.Grid.Wide,iv p0.Field.Grid.High,sv ad4 p0.Field.Vals cap5])),(4,pb a4),(5,.bool (bif (bif (bif p0.Sweep.Site.e0 then (p0.Sweep.Tilt==0) else false) then (p0.Sweep.Time==0) else false) then ((ln p0.Sweep.Rays)==0) else false)),(6,.bool true)] hF fun a hF=>WI.fin rfl (A9<|A3<|?_)
   refine Am<|roB [(3,.iface 158 (.agg #[.string p0.Name,iv p0.Time,iv p0.Field.Grid.X,iv p0.Field.Grid.Y,iv p0.Field.Grid.Size,iv p0.Field.Grid.Wide,iv p0.Field.Grid.High,sv ad4 p0.Field.Vals cap5])),(104,.bool (bif (bif (bif (bif (!(sEq p0.Name (Au (volume_field.mk p0.Name p0.Time p0.Field)).Name)) then true else (p0.Time != (Au (volume_field.mk p0.Name p0.Time p0.Field)).Time)) then true else (!(sEq p0.Text (Au (volume_field.mk p0.Name p0.Time p0.Field)).Text))) then true else (!(bif (bif (bif p0.Sweep.Site.e0 then (p0.Sweep.Tilt==0) else false) then (p0.Sweep.Time==0) else false) then ((ln p0.Sweep.Rays)==0) else false))) then true else false))] hF (oL 9 1 1 hS.i rfl rfl<|oL 9 0 1 hS.i rfl rfl<|oX (.run [] (Qs .neq 9 p0.Name (Au (volume_field.mk p0.Name p0.Time p0.Field)).Name) (.bool (!(sEq p0.Name (Au (volume_field.mk p0.Name p0.Time p0.Field)).Name)))) S2<|oGs [⟨83,false,(!(sEq p0.Name (Au (volume_field.mk p0.Name p0.Time p0.Field)).Name))⟩] (oL 3 1 2 hS.i rfl rfl<|oL 3 0 2 hS.i rfl rfl<|A1)<|oGs [⟨90,false,(bif (!(sEq p0.Name (Au (volume_field.mk p0.Name p0.Time p0.Field)).Name)) then true else (p0.Time != (Au (volume_field.mk p0.Name p0.Time p0.Field)).Time))⟩] (oL 9 1 20 hS.i rfl rfl<|oL 9 0 20 hS.i rfl rfl<|oX (.run [] (Qs .neq 9 p0.Text (Au (volume_field.mk p0.Name p0.Time p0.Field)).Text) (.bool (!(sEq p0.Text (Au (volume_field.mk p0.Name p0.Time p0.Field)).Text)))) S2<|A1)<|A1) fun a hF=>?_
   refine A8 hF h (fun hc h=>?_) fun hc h=>?_
   ·refine rnB [(2,.nilIface)] hF fun a hF=>?_
    refine wpIn_ret (A2<|A7 [.tmp 2] [_] hF rfl ⟨rfl,trivial⟩ ?_)
    subst h
    exact ⟨_,rfl,ν21,.nilIface,hext,rfl,(show volume_thing.R _ .nilIface .nil_ from rfl),St.pick [2] (by decide) hS⟩
   ·refine wK<|rnB [(2,.iface 158 (.agg #[.string p0.Name,iv p0.Time,iv p0.Field.Grid.X,iv p0.Field.Grid.Y,iv p0.Field.Grid.Size,iv p0.Field.Grid.Wide,iv p0.Field.Grid.High,sv ad4 p0.Field.Vals cap5]))] hF fun a hF=>?_
    refine wpIn_ret (A7 [.tmp 2] [_] hF rfl ⟨rfl,trivial⟩ ?_)
    subst h
    exact ⟨_,rfl,ν21,(.iface 158 (.agg #[.string p0.Name,iv p0.Time,iv p0.Field.Grid.X,iv p0.Field.Grid.Y,iv p0.Field.Grid.Size,iv p0.Field.Grid.Wide,iv p0.Field.Grid.High,sv ad4 p0.Field.Vals cap5])),hext,rfl,(show volume_thing.R _ _ (.ic158 (volume_field.mk p0.Name p0.Time p0.Field)) from ⟨[.string p0.Name,iv p0.Time,iv p0.Field.Grid.X,iv p0.Field.Grid.Y,iv p0.Field.Grid.Size,iv p0.Field.Grid.Wide,iv p0.Field.Grid.High,sv ad4 p0.Field.Vals cap5],rfl,⟨ad4,cap5,rfl,hA7⟩⟩),St.pick [2] (by decide) hS⟩
  ·refine qnB [(25,.bool (p0.Kind==3))] hF fun a hF=>?_
   refine A8 hF h (fun hc h=>?_) fun hc h=>?_
   ·refine WI.region<|qo 7 7 [(3,.iface 160 (.agg #[iv p0.Time,.string p0.Text]))] hF (oL 3 0 2 hS.i rfl rfl<|oL 9 0 20 hS.i rfl rfl<|A1) fun a hF=>WI.fin rfl (A9<|A3<|?_)
    refine esr<|qn 1 1 [(33,.iface 160 (.agg #[iv p0.Time,.string p0.Text]))] hF fun a hF=>?_
    refine SK.wi (qR (fun aJ=>[(34,aJ)]) hF (Mu (volume_note.mk p0.Time p0.Text) _ rfl μ w (hS.frz (i:=1) rfl hlow)) ?_)
    rintro aJ w a ⟨ν32,a9,aG,aN,aA,aH,a2,rfl,aS,aT,hQ⟩ hF
    replace hext:=hext.t (Frz.ext_mono a2 hS.ext.size)
    obtain ⟨hlow,hS⟩:=hS.frzMerge (i:=1) rfl hlow a2 hQ
    replace hA6:=hA6.mono Rp87.mono a2.1
    replace hA7:=hA7.mono a2.1
    refine SK.wi (qA 48 z48 (fun aB=>[(4,pb aB),(34,.agg ((Ay (volume_note.mk p0.Time p0.Text)).ax a9 aG aA aH))]) hF hS fun aB w a hF hS=>?_)
    refine SK.wi (qw 48 0 ((Ay (volume_note.mk p0.Time p0.Text)).ax a9 aG aA aH) hF hS rfl fun w a hF hS=>wfn rfl ?_)
    refine qoB [(5,.bool (bif (bif (bif p0.Sweep.Site.e0 then (p0.Sweep.Tilt==0) else false) then (p0.Sweep.Time==0) else false) then ((ln p0.Sweep.Rays)==0) else false))] hF (oN 38 1 3 8 hS.i rfl<|oX (.run [] (eqS .eql 38 p0.Sweep.Site.ar z38) (.bool p0.Sweep.Site.e0)) (La kr kr)<|oGs [⟨40,true,p0.Sweep.Site.e0⟩] (oL 3 1 11 hS.i rfl rfl<|A1)<|oGs [⟨46,true,(bif p0.Sweep.Site.e0 then (p0.Sweep.Tilt==0) else false)⟩] (oL 3 1 12 hS.i rfl rfl<|A1)<|oGs [⟨52,true,(bif (bif p0.Sweep.Site.e0 then (p0.Sweep.Tilt==0) else false) then (p0.Sweep.Time==0) else false)⟩] (oL 39 1 13 hS.i rfl rfl<|A1)<|A1) fun a hF=>?_
    refine qoB [(6,.bool (bif p0.Field.Grid.e0 then ((ln p0.Field.Vals)==0) else false))] hF (oN 43 1 14 5 hS.i rfl<|oX (.run [] (eqS .eql 43 p0.Field.Grid.ar z43) (.bool p0.Field.Grid.e0)) (La kr kr)<|oGs [⟨64,true,p0.Field.Grid.e0⟩] (oL 44 1 19 hS.i rfl rfl<|A1)<|A1) fun a hF=>?_
    refine Am<|qnB [(71,.iface 160 (.agg #[iv p0.Time,.string p0.Text]))] hF fun a hF=>?_
    refine wpIn_block<|qnB [(73,.bool false)] hF fun a hF=>?_
    refine wpIn_cond_false (hF.get rfl) ?_
    refine qnB [(76,.bool false)] hF fun a hF=>?_
    refine wpIn_cond_false (hF.get rfl) ?_
    refine wpIn_skip (A9<|A3<|?_)
    refine Am<|roB [(3,.iface 160 (.agg #[iv p0.Time,.string p0.Text])),(104,.bool (bif (bif (bif (bif (!(sEq p0.Name (Ay (volume_note.mk p0.Time p0.Text)).Name)) then true else (p0.Time != (Ay (volume_note.mk p0.Time p0.Text)).Time)) then true else (!(sEq p0.Text (Ay (volume_note.mk p0.Time p0.Text)).Text))) then true else (!(bif (bif (bif p0.Sweep.Site.e0 then (p0.Sweep.Tilt==0) else false) then (p0.Sweep.Time==0) else false) then ((ln p0.Sweep.Rays)==0) else false))) then true else (!(bif p0.Field.Grid.e0 then ((ln p0.Field.Vals)==0) else false))))] hF (oL 9 1 1 hS.i rfl rfl<|oL 9 0 1 hS.i rfl rfl<|oX (.run [] (Qs .neq 9 p0.Name (Ay (volume_note.mk p0.Time p0.Text)).Name) (.bool (!(sEq p0.Name (Ay (volume_note.mk p0.Time p0.Text)).Name)))) S2<|oGs [⟨83,false,(!(sEq p0.Name (Ay (volume_note.mk p0.Time p0.Text)).Name))⟩] (oL 3 1 2 hS.i rfl rfl<|oL 3 0 2 hS.i rfl rfl<|A1)<|oGs [⟨90,false,(bif (!(sEq p0.Name (Ay (volume_note.mk p0.Time p0.Text)).Name)) then true else (p0.Time != (Ay (volume_note.mk p0.Time p0.Text)).Time))⟩] (oL 9 1 20 hS.i rfl rfl<|oL 9 0 20 hS.i rfl rfl<|oX (.run [] (Qs .neq 9 p0.Text (Ay (volume_note.mk p0.Time p0.Text)).Text) (.bool (!(sEq p0.Text (Ay (volume_note.mk p0.Time p0.Text)).Text)))) S2<|A1)<|A1) fun a hF=>?_
    refine A8 hF h (fun hc h=>?_) fun hc h=>?_
    ·refine rnB [(2,.nilIface)] hF fun a hF=>?_
     refine wpIn_ret (A2<|A7 [.tmp 2] [_] hF rfl ⟨rfl,trivial⟩ ?_)
     subst h
     exact ⟨_,rfl,ν32,.nilIface,hext,rfl,(show volume_thing.R _ .nilIface .nil_ from rfl),St.pick [2] (by decide) hS⟩
    ·refine wK<|rnB [(2,.iface 160 (.agg #[iv p0.Time,.string p0.Text]))] hF fun a hF=>?_
     refine wpIn_ret (A7 [.tmp 2] [_] hF rfl ⟨rfl,trivial⟩ ?_)
     subst h
     exact ⟨_,rfl,ν32,(.iface 160 (.agg #[iv p0.Time,.string p0.Text])),hext,rfl,(show volume_thing.R _ _ (.ic160 (volume_note.mk p0.Time p0.Text)) from ⟨[iv p0.Time,.string p0.Text],rfl,rfl⟩),St.pick [2] (by decide) hS⟩
   ·refine rnB [(2,.nilIface)] hF fun a hF=>?_
    refine wpIn_ret (Ab<|A2<|A7 [.tmp 2] [_] hF rfl ⟨rfl,trivial⟩ ?_)
    subst h
    exact ⟨_,rfl,μ,.nilIface,hext,rfl,(show volume_thing.R _ .nilIface .nil_ from rfl),St.pick [1] (by decide) hS⟩
end Go.Proofs.YtifbomimeodibaaGreat
