import Derived.Test.YtifbomimeodibaaV4XD
import Derived.Test.YtifbomimeodibaaProg
import Derived.Test.YtifbomimeodibaaV4XW0
import Derived.Test.YtifbomimeodibaaV4XW1
import Derived.Test.YtifbomimeodibaaV4XW2
import Derived.Test.YtifbomimeodibaaV4XW3
import Derived.Test.YtifbomimeodibaaV4XW4
import Derived.Test.YtifbomimeodibaaV4XW7
import Derived.Test.YtifbomimeodibaaV4XW8
import Derived.Test.YtifbomimeodibaaV4XW9
namespace Go.Proofs.Ytifbomimeodibaa
open Go Go.RowKit Go.Eng
set_option maxRecDepth 10000
set_option maxHeartbeats 4000000
set_option linter.unusedVariables false
set_option linter.unusedSimpArgs false
theorem Qv (F:Nat) (p0:volume_Item) (res:(volume_thing×Int)) (h:Hu F p0=some res) (μ:Frz) (w0:World) (hm:FrzAt μ w0) {ad1:Option Addr} {cap2:Nat} {css3:List (List Value)} {ad4:Option Addr} {cap5:Nat} (hA6:ArrQ μ 1 Rp83 ad1 cap2 css3 p0.Sweep.Rays) (hA7:ArrM μ 2 api_Span.cells ad4 cap5 p0.Field.Vals):Dd Try.prog 26 #[.agg #[iv p0.Kind,.string p0.Name,iv p0.Time,.string p0.Sweep.Site.Name,iv p0.Sweep.Site.X,iv p0.Sweep.Site.Y,iv p0.Sweep.Site.Z,iv p0.Sweep.Site.Rose,iv p0.Sweep.Site.Gates,iv p0.Sweep.Site.Step,iv p0.Sweep.Site.Width,iv p0.Sweep.Tilt,iv p0.Sweep.Time,sv ad1 p0.Sweep.Rays cap2,iv p0.Field.Grid.X,iv p0.Field.Grid.Y,iv p0.Field.Grid.Size,iv p0.Field.Grid.Wide,iv p0.Field.Grid.High,sv ad4 p0.Field.Vals cap5,.string p0.Text]] w0 (fun e w=>∃(ν_:Frz) (aE:Value),μ.ext w0.heap.size ν_∧e=(.tuple #[aE,iv res.2])∧volume_thing.R ν_ aE res.1∧St w0 [fz w0 ν_] w):=by
 obtain ⟨hlow,hS⟩:=hm.init
 have hext:=Frz.ext_refl w0.heap.size μ
 rw [Hu] at h
 refine Aq Try.func26 rfl 12 [(0,.agg #[iv p0.Kind,.string p0.Name,iv p0.Time,.string p0.Sweep.Site.Name,iv p0.Sweep.Site.X,iv p0.Sweep.Site.Y,iv p0.Sweep.Site.Z,iv p0.Sweep.Site.Rose,iv p0.Sweep.Site.Gates,iv p0.Sweep.Site.Step,iv p0.Sweep.Site.Width,iv p0.Sweep.Tilt,iv p0.Sweep.Time,sv ad1 p0.Sweep.Rays cap2,iv p0.Field.Grid.X,iv p0.Field.Grid.Y,iv p0.Field.Grid.Size,iv p0.Field.Grid.Wide,iv p0.Field.Grid.High,sv ad4 p0.Field.Vals cap5,.string p0.Text])] rfl rfl kr fun a w hw hF=>?_
 replace hS:=hS.cast hw
 clear hw
 refine esr ?_
 refine SK.wi (H4 (t:=46) (fun b8=>[(1,pb b8)]) (.agg #[iv p0.Kind,.string p0.Name,iv p0.Time,.string p0.Sweep.Site.Name,iv p0.Sweep.Site.X,iv p0.Sweep.Site.Y,iv p0.Sweep.Site.Z,iv p0.Sweep.Site.Rose,iv p0.Sweep.Site.Gates,iv p0.Sweep.Site.Step,iv p0.Sweep.Site.Width,iv p0.Sweep.Tilt,iv p0.Sweep.Time,sv ad1 p0.Sweep.Rays cap2,iv p0.Field.Grid.X,iv p0.Field.Grid.Y,iv p0.Field.Grid.Size,iv p0.Field.Grid.Wide,iv p0.Field.Grid.High,sv ad4 p0.Field.Vals cap5,.string p0.Text]) #[iv p0.Kind,.string p0.Name,iv p0.Time,.string p0.Sweep.Site.Name,iv p0.Sweep.Site.X,iv p0.Sweep.Site.Y,iv p0.Sweep.Site.Z,iv p0.Sweep.Site.Rose,iv p0.Sweep.Site.Gates,iv p0.Sweep.Site.Step,iv p0.Sweep.Site.Width,iv p0.Sweep.Tilt,iv p0.Sweep.Time,sv ad1 p0.Sweep.Rays cap2,iv p0.Field.Grid.X,iv p0.Field.Grid.Y,iv p0.Field.Grid.Size,iv p0.Field.Grid.Wide,iv p0.Field.Grid.High,sv ad4 p0.Field.Vals cap5,.string p0.Text] hF hS kr ⟨kr⟩ kr (fun _=>⟨kr⟩) fun b8 w a hF hS=>?_)
 refine rn 2 3 [(1,pb b8)] hF fun a hF=>?_
 refine wfn rfl ?_
 refine esr ?_
 refine rno 1 [.run [] (Instr.loadAt 46 (pb b8)) (.agg #[iv p0.Kind,.string p0.Name,iv p0.Time,.string p0.Sweep.Site.Name,iv p0.Sweep.Site.X,iv p0.Sweep.Site.Y,iv p0.Sweep.Site.Z,iv p0.Sweep.Site.Rose,iv p0.Sweep.Site.Gates,iv p0.Sweep.Site.Step,iv p0.Sweep.Site.Width,iv p0.Sweep.Tilt,iv p0.Sweep.Time,sv ad1 p0.Sweep.Rays cap2,iv p0.Field.Grid.X,iv p0.Field.Grid.Y,iv p0.Field.Grid.Size,iv p0.Field.Grid.Wide,iv p0.Field.Grid.High,sv ad4 p0.Field.Vals cap5,.string p0.Text])] 1 [(5,.agg #[iv p0.Kind,.string p0.Name,iv p0.Time,.string p0.Sweep.Site.Name,iv p0.Sweep.Site.X,iv p0.Sweep.Site.Y,iv p0.Sweep.Site.Z,iv p0.Sweep.Site.Rose,iv p0.Sweep.Site.Gates,iv p0.Sweep.Site.Step,iv p0.Sweep.Site.Width,iv p0.Sweep.Tilt,iv p0.Sweep.Time,sv ad1 p0.Sweep.Rays cap2,iv p0.Field.Grid.X,iv p0.Field.Grid.Y,iv p0.Field.Grid.Size,iv p0.Field.Grid.Wide,iv p0.Field.Grid.High,sv ad4 p0.Field.Vals cap5,.string p0.Text])] hF (A0 (obN (us:=[iv p0.Kind,.string p0.Name,iv p0.Time,.string p0.Sweep.Site.Name,iv p0.Sweep.Site.X,iv p0.Sweep.Site.Y,iv p0.Sweep.Site.Z,iv p0.Sweep.Site.Rose,iv p0.Sweep.Site.Gates,iv p0.Sweep.Site.Step,iv p0.Sweep.Site.Width,iv p0.Sweep.Tilt,iv p0.Sweep.Time,sv ad1 p0.Sweep.Rays cap2,iv p0.Field.Grid.X,iv p0.Field.Grid.Y,iv p0.Field.Grid.Size,iv p0.Field.Grid.Wide,iv p0.Field.Grid.High,sv ad4 p0.Field.Vals cap5,.string p0.Text]) kr (fun _ hd=>((hS.at_ hd).blk (i:=0) rfl).cells rfl)) Aa) fun a hF=>?_
 refine SK.wi (Bz (fun v9=>[(6,v9)]) hF kr ⟨kr⟩ (Ug p0 _ rfl μ w (hS.frz (i:=1) rfl hlow) hA6 hA7) (fun _=>⟨kr⟩) ?_)
 rintro v9 w a ⟨ν10,aD,a7,hv_,a1,hQ⟩ hF
 try rw [hv_] at hF
 replace hext:=Frz.ext_trans hext (Frz.ext_mono a7 hS.ext.size)
 obtain ⟨hlow,hS⟩:=hS.frzMerge (i:=1) rfl hlow a7 hQ
 replace hA6:=hA6.mono Rp83.mono a7.1
 replace hA7:=hA7.mono a7.1
 refine rn 1 3 [(4,aD)] hF fun a hF=>?_
 refine wfn rfl ?_
 refine B0 ?_
 refine B0 ?_
 rcases a2:(Gx p0) with _|a0|a0|a0
 ·replace h:=volume_thing.toNil a2 h
  rw [a2] at a1
  obtain rfl:aD=.nilIface:=a1
  refine WI.region ?_
  refine rn 2 2 [(4,.nilIface),(8,.bool true)] hF fun a hF=>?_
  refine wfn rfl ?_
  refine wpIn_cond_true (hF.get rfl) ?_
  refine esr ?_
  refine rn 2 2 [(2,.nilIface),(3,iv 2)] hF fun a hF=>?_
  refine wfn rfl ?_
  refine wpIn_ret (Ab<|Ak [.tmp 2,.tmp 3] [.nilIface,iv 2] hF rfl ⟨rfl,rfl,trivial⟩ ?_)
  have hr_:=Option.some.inj h
  subst hr_
  exact ⟨_,rfl,ν10,.nilIface,hext,rfl,(show volume_thing.R _ .nilIface .nil_ from rfl),St.pick [1] (by decide) hS⟩
 ·replace h:=volume_thing.to112 a2 h
  rw [a2] at a1
  obtain ⟨aN,rfl,aH⟩:=a1
  obtain ⟨a3,a5,aG,rfl,aB⟩:=aH
  refine WI.region ?_
  refine rn 2 2 [(4,.iface 112 (.agg #[.string a0.Sweep.Site.Name,iv a0.Sweep.Site.X,iv a0.Sweep.Site.Y,iv a0.Sweep.Site.Z,iv a0.Sweep.Site.Rose,iv a0.Sweep.Site.Gates,iv a0.Sweep.Site.Step,iv a0.Sweep.Site.Width,iv a0.Sweep.Tilt,iv a0.Sweep.Time,sv a3 a0.Sweep.Rays a5])),(8,.bool false)] hF fun a hF=>?_
  refine wfn rfl ?_
  refine wpIn_cond_false (hF.get rfl) ?_
  refine wpIn_skip (A1 ?_)
  refine esr ?_
  replace h:=A4 h
  obtain ⟨a8,aK,h⟩:=h
  refine rx 5 [.call [] 85 #[.agg #[.string a0.Sweep.Site.Name,iv a0.Sweep.Site.X,iv a0.Sweep.Site.Y,iv a0.Sweep.Site.Z,iv a0.Sweep.Site.Rose,iv a0.Sweep.Site.Gates,iv a0.Sweep.Site.Step,iv a0.Sweep.Site.Width,iv a0.Sweep.Tilt,iv a0.Sweep.Time,sv a3 a0.Sweep.Rays a5]] (iv a8)] 5 [(2,.iface 112 (.agg #[.string a0.Sweep.Site.Name,iv a0.Sweep.Site.X,iv a0.Sweep.Site.Y,iv a0.Sweep.Site.Z,iv a0.Sweep.Site.Rose,iv a0.Sweep.Site.Gates,iv a0.Sweep.Site.Step,iv a0.Sweep.Site.Width,iv a0.Sweep.Tilt,iv a0.Sweep.Time,sv a3 a0.Sweep.Rays a5])),(3,iv a8)] hF (A0 (show Ob.ok _ Ext _ _ from fun hk w2 hd=>Km F a0 _ ((fun _=>aK) hk) _ w2 (A7 w2) (aB.mono Rp83.mono (FrzAt.le_mem ((hS.later hd).frz (i:=1) rfl hlow)))) Aa) fun a w hF hx=>?_
  replace hS:=hS.later hx
  refine wfn rfl ?_
  refine wpIn_ret (Ak [.tmp 2,.tmp 3] [.iface 112 (.agg #[.string a0.Sweep.Site.Name,iv a0.Sweep.Site.X,iv a0.Sweep.Site.Y,iv a0.Sweep.Site.Z,iv a0.Sweep.Site.Rose,iv a0.Sweep.Site.Gates,iv a0.Sweep.Site.Step,iv a0.Sweep.Site.Width,iv a0.Sweep.Tilt,iv a0.Sweep.Time,sv a3 a0.Sweep.Rays a5]),iv a8] hF rfl ⟨rfl,rfl,trivial⟩ ?_)
  have hr_:=Option.some.inj h
  subst hr_
  exact ⟨_,rfl,ν10,(.iface 112 (.agg #[.string a0.Sweep.Site.Name,iv a0.Sweep.Site.X,iv a0.Sweep.Site.Y,iv a0.Sweep.Site.Z,iv a0.Sweep.Site.Rose,iv a0.Sweep.Site.Gates,iv a0.Sweep.Site.Step,iv a0.Sweep.Site.Width,iv a0.Sweep.Tilt,iv a0.Sweep.Time,sv a3 a0.Sweep.Rays a5])),hext,rfl,(show volume_thing.R _ _ (.ic112 a0) from ⟨[.string a0.Sweep.Site.Name,iv a0.Sweep.Site.X,iv a0.Sweep.Site.Y,iv a0.Sweep.Site.Z,iv a0.Sweep.Site.Rose,iv a0.Sweep.Site.Gates,iv a0.Sweep.Site.Step,iv a0.Sweep.Site.Width,iv a0.Sweep.Tilt,iv a0.Sweep.Time,sv a3 a0.Sweep.Rays a5],rfl,⟨a3,a5,aG,rfl,aB⟩⟩),St.pick [1] (by decide) hS⟩
 ·replace h:=volume_thing.to114 a2 h
  rw [a2] at a1
  obtain ⟨aO,rfl,aI⟩:=a1
  obtain ⟨a4,a6,rfl,aC⟩:=aI
  refine WI.region ?_
  refine rn 2 2 [(4,.iface 114 (.agg #[.string a0.key,iv a0.time,iv a0.Field.Grid.X,iv a0.Field.Grid.Y,iv a0.Field.Grid.Size,iv a0.Field.Grid.Wide,iv a0.Field.Grid.High,sv a4 a0.Field.Vals a6])),(8,.bool false)] hF fun a hF=>?_
  refine wfn rfl ?_
  refine wpIn_cond_false (hF.get rfl) ?_
  refine wpIn_skip (A1 ?_)
  refine esr ?_
  replace h:=A4 h
  obtain ⟨a9,aL,h⟩:=h
  refine rx 5 [.call [] 99 #[.agg #[.string a0.key,iv a0.time,iv a0.Field.Grid.X,iv a0.Field.Grid.Y,iv a0.Field.Grid.Size,iv a0.Field.Grid.Wide,iv a0.Field.Grid.High,sv a4 a0.Field.Vals a6]] (iv a9)] 5 [(2,.iface 114 (.agg #[.string a0.key,iv a0.time,iv a0.Field.Grid.X,iv a0.Field.Grid.Y,iv a0.Field.Grid.Size,iv a0.Field.Grid.Wide,iv a0.Field.Grid.High,sv a4 a0.Field.Vals a6])),(3,iv a9)] hF (A0 (show Ob.ok _ Ext _ _ from fun hk w2 hd=>Kl F a0 _ ((fun _=>aL) hk) _ w2 (A7 w2) (aC.mono (FrzAt.le_mem ((hS.later hd).frz (i:=1) rfl hlow)))) Aa) fun a w hF hx=>?_
  replace hS:=hS.later hx
  refine wfn rfl ?_
  refine wpIn_ret (Ak [.tmp 2,.tmp 3] [.iface 114 (.agg #[.string a0.key,iv a0.time,iv a0.Field.Grid.X,iv a0.Field.Grid.Y,iv a0.Field.Grid.Size,iv a0.Field.Grid.Wide,iv a0.Field.Grid.High,sv a4 a0.Field.Vals a6]),iv a9] hF rfl ⟨rfl,rfl,trivial⟩ ?_)
  have hr_:=Option.some.inj h
  subst hr_
  exact ⟨_,rfl,ν10,(.iface 114 (.agg #[.string a0.key,iv a0.time,iv a0.Field.Grid.X,iv a0.Field.Grid.Y,iv a0.Field.Grid.Size,iv a0.Field.Grid.Wide,iv a0.Field.Grid.High,sv a4 a0.Field.Vals a6])),hext,rfl,(show volume_thing.R _ _ (.ic114 a0) from ⟨[.string a0.key,iv a0.time,iv a0.Field.Grid.X,iv a0.Field.Grid.Y,iv a0.Field.Grid.Size,iv a0.Field.Grid.Wide,iv a0.Field.Grid.High,sv a4 a0.Field.Vals a6],rfl,⟨a4,a6,rfl,aC⟩⟩),St.pick [1] (by decide) hS⟩
 ·replace h:=volume_thing.to116 a2 h
  rw [a2] at a1
  obtain ⟨aF,rfl,aJ⟩:=a1
  obtain rfl:aF=_:=aJ
  refine WI.region ?_
  refine rn 2 2 [(4,.iface 116 (.agg #[iv a0.time,.string a0.text])),(8,.bool false)] hF fun a hF=>?_
  refine wfn rfl ?_
  refine wpIn_cond_false (hF.get rfl) ?_
  refine wpIn_skip (A1 ?_)
  refine esr ?_
  replace h:=A4 h
  obtain ⟨aA,aM,h⟩:=h
  refine rx 5 [.call [] 107 #[.agg #[iv a0.time,.string a0.text]] (iv aA)] 5 [(2,.iface 116 (.agg #[iv a0.time,.string a0.text])),(3,iv aA)] hF (A0 (show Ob.ok _ Ext _ _ from fun hk w2 hd=>Ld F a0 _ ((fun _=>aM) hk) _ w2 (A7 w2)) Aa) fun a w hF hx=>?_
  replace hS:=hS.later hx
  refine wfn rfl ?_
  refine wpIn_ret (Ak [.tmp 2,.tmp 3] [.iface 116 (.agg #[iv a0.time,.string a0.text]),iv aA] hF rfl ⟨rfl,rfl,trivial⟩ ?_)
  have hr_:=Option.some.inj h
  subst hr_
  exact ⟨_,rfl,ν10,(.iface 116 (.agg #[iv a0.time,.string a0.text])),hext,rfl,(show volume_thing.R _ _ (.ic116 a0) from ⟨[iv a0.time,.string a0.text],rfl,rfl⟩),St.pick [1] (by decide) hS⟩
theorem Nq (F:Nat) (p0:volume_thing) (p1:volume_writer) (res:volume_writer) (h:Jo F p0 p1=some res) (μ:Frz) (w0 w1:World) (T_:List Res) (hlow:Ba w0 μ) {v:Value} {cb1:Nat} {ad1:Option Addr} {cap2:Nat} (hv:volume_thing.R μ v p0) (hS:St w0 (fz w0 μ::blk cb1 106 #[sv ad1 p1.b cap2]::arrT 5 1 (fK .u8) ad1 p1.b.length cap2 p1.b::T_) w1):Zf Try.prog v "radome/volume.write" #[pb cb1] (fun f gs=>Dd Try.prog f gs w1 (fun e w=>∃(ν_:Frz) (ad3:Option Addr) (cap4:Nat),μ.ext w0.heap.size ν_∧Ba w0 ν_∧e=(.tuple #[])∧St w0 (fz w0 ν_::blk cb1 106 #[sv ad3 res.b cap4]::arrT 5 1 (fK .u8) ad3 res.b.length cap4 res.b::T_) w)):=by
 cases p0 with
 | nil_=>cases h
 | ic112 y =>
  obtain ⟨cs,rfl,hr⟩:=hv
  obtain ⟨ad5,cap6,css7,rfl,hA8⟩:=hr
  exact ⟨89,#[.agg #[.string y.Sweep.Site.Name,iv y.Sweep.Site.X,iv y.Sweep.Site.Y,iv y.Sweep.Site.Z,iv y.Sweep.Site.Rose,iv y.Sweep.Site.Gates,iv y.Sweep.Site.Step,iv y.Sweep.Site.Width,iv y.Sweep.Tilt,iv y.Sweep.Time,sv ad5 y.Sweep.Rays cap6],pb cb1],by kernel_rfl,No F y p1 _ h μ w0 w1 T_ hlow hA8 hS⟩
 | ic114 y =>
  obtain ⟨cs,rfl,hr⟩:=hv
  obtain ⟨ad9,a0,rfl,a1⟩:=hr
  exact ⟨103,#[.agg #[.string y.key,iv y.time,iv y.Field.Grid.X,iv y.Field.Grid.Y,iv y.Field.Grid.Size,iv y.Field.Grid.Wide,iv y.Field.Grid.High,sv ad9 y.Field.Vals a0],pb cb1],by kernel_rfl,Nn F y p1 _ h μ w0 w1 T_ hlow a1 hS⟩
 | ic116 y =>
  obtain ⟨cs,rfl,hr⟩:=hv
  obtain rfl:=hr
  exact ⟨111,#[.agg #[iv y.time,.string y.text],pb cb1],by kernel_rfl,Pc F y p1 _ h μ w0 w1 T_ hlow hS⟩
theorem Rq (F:Nat) (p0:volume_thing) (res:(List Int)) (h:J6 F p0=some res) (μ:Frz) (w0:World) (hm:FrzAt μ w0) {v1:Value} (hA2:volume_thing.R μ v1 p0):Dd Try.prog 27 #[v1] w0 (fun e w=>∃zad0 zcap0,e=(sv zad0 res zcap0)∧St w0 [arr 5 1 (fK .u8) zad0 res.length zcap0 res] w):=by
 obtain ⟨hlow,hS⟩:=hm.init
 have hext:=Frz.ext_refl w0.heap.size μ
 rw [J6] at h
 refine Aq Try.func27 rfl 29 [(0,v1)] rfl rfl kr fun a w hw hF=>?_
 replace hS:=hS.cast hw
 clear hw
 refine esr ?_
 refine rn 1 1 [(0,v1)] hF fun a hF=>?_
 refine wfn rfl ?_
 refine esr ?_
 refine SK.wi (Bs (t:=106) (fun b3=>[(0,v1),(3,pb b3)]) #[.slice none 0 0] hF hS kr ⟨kr⟩ kr (fun _=>⟨kr⟩) fun b3 w a hF hS=>?_)
 refine SK.wi (Bs (t:=106) (fun b4=>[(0,v1),(3,pb b3),(4,pb b4)]) #[.slice none 0 0] hF hS kr ⟨kr⟩ kr (fun _=>⟨kr⟩) fun b4 w a hF hS=>?_)
 refine wfn rfl ?_
 refine esr ?_
 refine rn 1 1 [(3,pb b3),(4,pb b4),(5,v1)] hF fun a hF=>?_
 replace hS:=hS.nilT 5 1 (fK .u8)
 replace h:=A4 h
 obtain ⟨y5,hy5,h⟩:=h
 replace hS:=hS.s2.s3
 refine SK.wi (W5 (fun v8=>[(3,pb b3),(4,pb b4)]) hF kr ⟨kr⟩ (Nq F _ _ _ hy5 μ w0 w _ hlow hA2 hS) (fun _=>⟨kr⟩) ?_)
 rintro v8 w a ⟨ν6,ad9,a6,hx7,hlow,rfl,hS⟩ hF
 replace hext:=Frz.ext_trans hext hx7
 replace hA2:=hA2.mono hx7.1
 refine wfn rfl ?_
 refine esr ?_
 refine rno 3 [.run [] (Instr.loadAt 23 (pb b3)) (sv ad9 y5.b a6)] 3 [(3,pb b3),(4,pb b4),(9,iv (ln y5.b))] hF (A0 (ob1 kr (fun _ hd=>(hS.at_ hd).cell (i:=1) (j:=0) rfl rfl)) Aa) fun a hF=>?_
 refine SK.wi (G0 (e:=3) (sz:=1) (f:=fI) (t:=51) (len:=1) (fun aF=>[(3,pb b3),(4,pb b4),(10,sb aF 1)]) #[(0,iv (ln y5.b))] #[iv (ln y5.b)] ([(ln y5.b)]) hF hS kr ⟨kr⟩ kr Ee rfl rfl kr (fun _=>⟨kr⟩) fun aF w a hF hS=>?_)
 replace hS:=hS.nilT 5 1 (fK .u8)
 obtain ⟨ν12,aH,hlow,hS,aO⟩:=hS.freeze (i:=2) (j:=1) rfl rfl (by decide) hlow
 replace hA2:=hA2.mono aH.1
 replace hext:=Frz.ext_trans hext aH
 have aA:=ArrM.of_arr aO
 replace h:=A4 h
 obtain ⟨aD,aM,h⟩:=h
 replace hS:=hS.s4.s2
 refine SK.wi (Bz (fun aP=>[(3,pb b3),(4,pb b4)]) hF kr ⟨kr⟩ (Ax F _ _ _ aM ν12 w0 w _ hlow aA hS) (fun _=>⟨kr⟩) ?_)
 rintro aP w a ⟨ν17,aE,aG,aB,hlow,rfl,hS⟩ hF
 replace hext:=Frz.ext_trans hext aB
 replace hA2:=hA2.mono aB.1
 replace aA:=aA.mono aB.1
 refine wfn rfl ?_
 refine esr ?_
 refine rno 4 [.run [] (Instr.loadAt 23 (pb b4)) (sv aE aD.b aG),.run [] (Instr.loadAt 23 (pb b3)) (sv ad9 y5.b a6)] 4 [(4,pb b4),(13,sv aE aD.b aG),(15,sv ad9 y5.b a6)] hF (A0 (ob1 kr (fun _ hd=>(hS.at_ hd).cell (i:=1) (j:=0) rfl rfl)) (A0 (ob1 kr (fun _ hd=>(hS.at_ hd).cell (i:=3) (j:=0) rfl rfl)) Aa)) fun a hF=>?_
 replace h:=A4 h
 obtain ⟨a0,aJ,h⟩:=h
 refine SK.wi (S6 (t:=23) (ty:=23) (bytes:=1) (l:=aD.b) (l':=y5.b) (fun a1 a2=>[(4,pb b4),(16,sv a1 a0 a2)]) 2 hF hS rfl kr ⟨kr⟩ kr (hS.arrT_ (i:=4) rfl) (fun _ _=>rfl) aJ (fun _ _=>⟨kr⟩) fun a1 a2 w a hF hS=>?_)
 refine rn 1 6 [(4,pb b4),(16,sv a1 a0 a2),(17,pb b4)] hF fun a hF=>?_
 refine SK.wi (Ap (t:=23) [(4,pb b4)] 1 0 (sv a1 a0 a2) #[sv a1 a0 a2] hF hS rfl kr ⟨kr⟩ kr kr kr kr ⟨kr⟩ fun w a hF hS=>?_)
 refine wfn rfl ?_
 refine B0 ?_
 replace h:=A4 h
 obtain ⟨aQ,aN,h⟩:=h
 refine Cz 5 [4] _ (D:=fun w=>St w0 [blk b4 106 #[sv a1 a0 a2],arrT 5 1 (fK .u8) a1 a0.length a2 a0,blk b3 106 #[sv ad9 y5.b a6],arrT 5 1 (fK .u8) ad9 y5.b.length a6 y5.b] w∧FrzAt ν17 w) kr kr hF.size (fun w hx=>?_) (fun _ _ h=>h)
 replace hS:=hS.later hx
 refine ⟨⟨St.pick [1,2,3,4] (by decide) hS,hS.frz (i:=0) rfl hlow⟩,?_⟩
 have aT:=Frz.le_refl ν17
 refine WT.s [0,1,2,3] [4] kr kr ?_
 refine Ek (rest:=[]) (obs:=[.run [] (Instr.loadAt 23 (pb b4)) (sv a1 a0 a2),.run [] (Instr.loadAt 23 (pb b4)) (sv a1 a0 a2)]) [0,1,2,3] [(4,pb b4),(19,sv a1 a0 a2),(21,sv a1 a0 a2)] hF kr kr (A0 (ob1 kr (fun _ hd=>hd.1.cell (i:=0) (j:=0) rfl rfl)) (A0 (ob1 kr (fun _ hd=>hd.1.cell (i:=0) (j:=0) rfl rfl)) Aa)) ⟨kr⟩ fun a hF=>?_
 refine WRun.fin ?_
 refine all_cons ?_ (Ay)
 refine Bz (fun aI=>[(4,pb b4),(19,sv a1 a0 a2),(22,aI)]) hF kr ⟨kr⟩ (Pt F _ _ aN (Bp w) w (A7 w) (Arr.toM (hS.arrT_ (i:=2) rfl))) (fun _=>⟨kr⟩) ?_
 rintro aI w a ⟨aR,aS,rfl,hQ⟩ hF
 replace hS:=hS.madeL hQ
 refine ⟨⟨St.pick [2,3,4,5] (by decide) hS,(hS.frz (i:=1) rfl hlow)⟩,?_⟩
 refine WT.z [] kr ?_
 refine WRun.fin ?_
 replace h:=A4 h
 obtain ⟨a5,aK,h⟩:=h
 refine SK.wi (S6 (t:=23) (ty:=23) (bytes:=1) (l:=a0) (l':=aQ) (fun a3 a4=>[(4,pb b4),(23,sv a3 a5 a4)]) 3 hF hS rfl kr ⟨kr⟩ kr (hS.arr (i:=0) rfl) (fun _ _=>rfl) aK (fun _ _=>⟨kr⟩) fun a3 a4 w a hF hS=>?_)
 refine rn 1 7 [(4,pb b4),(23,sv a3 a5 a4),(24,pb b4)] hF fun a hF=>?_
 refine SK.wi (Ap (t:=23) [(4,pb b4)] 2 0 (sv a3 a5 a4) #[sv a3 a5 a4] hF hS rfl kr ⟨kr⟩ kr kr kr kr ⟨kr⟩ fun w a hF hS=>?_)
 refine wfn rfl ?_
 refine esr ?_
 refine SK.wi (G0 (e:=5) (sz:=1) (f:=(fK .u8)) (t:=23) (len:=1) (fun a9=>[(4,pb b4),(25,sb a9 1)]) #[(0,.int .u8 0)] #[.int .u8 0] ([0]) hF hS kr ⟨kr⟩ kr (Cf .u8) rfl rfl kr (fun _=>⟨kr⟩) fun a9 w a hF hS=>?_)
 refine rno 2 [.run [] (Instr.loadAt 23 (pb b4)) (sv a3 a5 a4)] 3 [(25,sb a9 1),(27,sv a3 a5 a4)] hF (A0 (ob1 kr (fun _ hd=>(hS.at_ hd).cell (i:=3) (j:=0) rfl rfl)) Aa) fun a hF=>?_
 replace h:=A4 h
 obtain ⟨aC,aL,h⟩:=h
 refine SK.wi (S4 (t:=23) (ty:=23) (bytes:=1) (l:=([0])) (l':=a5) (fun a7 a8=>[(28,sv a7 aC a8)]) 0 hF hS rfl kr ⟨kr⟩ kr (hS.arrT_ (i:=4) rfl) (fun _ _=>rfl) aL (fun _ _=>⟨kr⟩) fun a7 a8 w a hF hS=>?_)
 refine rn 1 5 [(2,sv a7 aC a8)] hF fun a hF=>?_
 refine wfn rfl ?_
 refine wpIn_ret (Ak [.tmp 2] [sv a7 aC a8] hF rfl ⟨rfl,trivial⟩ ?_)
 have hr_:=Option.some.inj h
 subst hr_
 exact ⟨_,rfl,_,_,rfl,St.pick [0] (by decide) hS⟩
theorem Np (F:Nat) (p0:volume_thing) (res:Int) (h:Du F p0=some res) (μ:Frz) (w0:World) (hm:FrzAt μ w0) {v:Value} (hv:volume_thing.R μ v p0):Zf Try.prog v "radome/volume.check" #[] (fun f gs=>Dd Try.prog f gs w0 (fun e w=>e=(iv res)∧Ext w0 w)):=by
 cases p0 with
 | nil_=>cases h
 | ic112 y =>
  obtain ⟨cs,rfl,hr⟩:=hv
  obtain ⟨ad1,cap2,css3,rfl,hA4⟩:=hr
  exact ⟨85,#[.agg #[.string y.Sweep.Site.Name,iv y.Sweep.Site.X,iv y.Sweep.Site.Y,iv y.Sweep.Site.Z,iv y.Sweep.Site.Rose,iv y.Sweep.Site.Gates,iv y.Sweep.Site.Step,iv y.Sweep.Site.Width,iv y.Sweep.Tilt,iv y.Sweep.Time,sv ad1 y.Sweep.Rays cap2]],by kernel_rfl,(Calls.toR (Km F y _ h μ w0 hm hA4))⟩
 | ic114 y =>
  obtain ⟨cs,rfl,hr⟩:=hv
  obtain ⟨ad5,cap6,rfl,hA7⟩:=hr
  exact ⟨99,#[.agg #[.string y.key,iv y.time,iv y.Field.Grid.X,iv y.Field.Grid.Y,iv y.Field.Grid.Size,iv y.Field.Grid.Wide,iv y.Field.Grid.High,sv ad5 y.Field.Vals cap6]],by kernel_rfl,(Calls.toR (Kl F y _ h μ w0 hm hA7))⟩
 | ic116 y =>
  obtain ⟨cs,rfl,hr⟩:=hv
  obtain rfl:=hr
  exact ⟨107,#[.agg #[iv y.time,.string y.text]],by kernel_rfl,(Calls.toR (Ld F y _ h μ w0 hm))⟩
theorem Mw (F:Nat) (p0:(List Int)) (res:(volume_thing×Int)) (h:Hh F p0=some res) (μ:Frz) (w0:World) (hm:FrzAt μ w0) {ad1:Option Addr} {cap2:Nat} (hA3:ArrM μ 1 (fK .u8) ad1 cap2 p0):Dd Try.prog 24 #[sv ad1 p0 cap2] w0 (fun e w=>∃(ν_:Frz) (aX:Value),μ.ext w0.heap.size ν_∧e=(.tuple #[aX,iv res.2])∧volume_thing.R ν_ aX res.1∧St w0 [fz w0 ν_] w):=by
 obtain ⟨hlow,hS⟩:=hm.init
 have hext:=Frz.ext_refl w0.heap.size μ
 rw [Hh] at h
 refine To Try.func24 rfl 64 [(0,sv ad1 p0 cap2)] rfl rfl kr fun a w hw hF=>?_
 replace hS:=hS.cast hw
 clear hw
 refine esr ?_
 refine SK.wi (Bs (t:=72) (fun b4=>[(0,sv ad1 p0 cap2),(2,pb b4)]) #[.nilIface] hF hS kr ⟨kr⟩ kr (fun _=>⟨kr⟩) fun b4 w a hF hS=>?_)
 refine SK.wi (Bs (t:=28) (fun b5=>[(0,sv ad1 p0 cap2),(2,pb b4),(3,pb b5)]) #[iv 0] hF hS kr ⟨kr⟩ kr (fun _=>⟨kr⟩) fun b5 w a hF hS=>?_)
 refine wfn rfl ?_
 refine esr ?_
 refine rn 2 2 [(0,sv ad1 p0 cap2),(2,pb b4),(3,pb b5),(8,.agg #[sv ad1 p0 cap2])] hF fun a hF=>?_
 refine SK.wi (H4 (t:=98) (fun b6=>[(0,sv ad1 p0 cap2),(2,pb b4),(3,pb b5),(9,pb b6)]) (.agg #[sv ad1 p0 cap2]) #[sv ad1 p0 cap2] hF hS kr ⟨kr⟩ kr (fun _=>⟨kr⟩) fun b6 w a hF hS=>?_)
 refine rn 1 4 [(0,sv ad1 p0 cap2),(2,pb b4),(3,pb b5),(4,pb b6)] hF fun a hF=>?_
 refine wfn rfl ?_
 refine esr ?_
 refine rn 1 1 [(0,sv ad1 p0 cap2),(2,pb b4),(3,pb b5),(4,pb b6),(11,pb b6)] hF fun a hF=>?_
 replace h:=A4 h
 obtain ⟨y7,hy7,h⟩:=h
 replace hS:=hS.s3
 refine SK.wi (Bz (fun aT=>[(0,sv ad1 p0 cap2),(2,pb b4),(3,pb b5),(4,pb b6),(12,aT)]) hF kr ⟨kr⟩ (Ja F _ _ hy7 μ w0 w _ hlow hA3 hS) (fun _=>⟨kr⟩) ?_)
 rintro aT w a ⟨ν8,a4,a0,hx9,hlow,rfl,a8,hS⟩ hF
 replace hext:=Frz.ext_trans hext hx9
 replace hA3:=hA3.mono hx9.1
 refine rn 5 7 [(0,sv ad1 p0 cap2),(2,pb b4),(3,pb b5),(4,pb b6),(5,iv y7.1),(6,.bool y7.2.1)] hF fun a hF=>?_
 refine wfn rfl ?_
 refine B0 ?_
 refine B0 ?_
 refine Cz 27 [23,24] _ (D:=fun w=>St w0 [blk b6 98 #[sv a4 y7.2.2.b a0],blk b5 28 #[iv 0],blk b4 72 #[.nilIface]] w∧FrzAt ν8 w) kr kr hF.size (fun w hx=>?_) (fun _ _ h=>h)
 replace hS:=hS.later hx
 refine ⟨⟨St.pick [1,2,3] (by decide) hS,hS.frz (i:=0) rfl hlow⟩,?_⟩
 have aL:=Frz.le_refl ν8
 refine WT.s [0,1,2,3,4,5,6,7,8,9,10,11,12,13,14,15,16,17,18,19,20,21,22] [23] kr kr ?_
 refine Ek (rest:=[3,4,5,6,7,8,9,10,11,12,13,14,15,16,17,18,19,20,21,22]) (obs:=[]) [0,1,2] [(0,sv ad1 p0 cap2),(2,pb b4),(3,pb b5),(4,pb b6),(5,iv y7.1),(17,.bool (!y7.2.1))] hF kr kr Aa ⟨kr⟩ fun a hF=>?_
 rcases Bool.eq_false_or_eq_true ((!y7.2.1)) with aC|aC
 ·replace h:=Ao h aC
  rw [aC] at hF
  refine Ch [(0,sv ad1 p0 cap2),(2,pb b4),(3,pb b5),(4,pb b6),(5,iv y7.1),(17,.bool true),(18,undef)] hF kr kr ⟨kr⟩ ⟨kr⟩ fun a hF=>?_
  refine Ch [(0,sv ad1 p0 cap2),(2,pb b4),(3,pb b5),(4,pb b6),(5,iv y7.1),(17,.bool true),(19,undef)] hF kr kr ⟨kr⟩ ⟨kr⟩ fun a hF=>?_
  refine Ch [(0,sv ad1 p0 cap2),(2,pb b4),(3,pb b5),(4,pb b6),(5,iv y7.1),(17,.bool true),(20,undef)] hF kr kr ⟨kr⟩ ⟨kr⟩ fun a hF=>?_
  refine Ch [(0,sv ad1 p0 cap2),(2,pb b4),(3,pb b5),(4,pb b6),(5,iv y7.1),(17,.bool true),(21,undef)] hF kr kr ⟨kr⟩ ⟨kr⟩ fun a hF=>?_
  refine Ch [(0,sv ad1 p0 cap2),(2,pb b4),(3,pb b5),(4,pb b6),(5,iv y7.1),(17,.bool true),(22,undef)] hF kr kr ⟨kr⟩ ⟨kr⟩ fun a hF=>?_
  refine Ch [(0,sv ad1 p0 cap2),(2,pb b4),(3,pb b5),(4,pb b6),(5,iv y7.1),(17,.bool true),(22,undef),(23,undef)] hF kr kr ⟨kr⟩ ⟨kr⟩ fun a hF=>?_
  refine Ch [(0,sv ad1 p0 cap2),(2,pb b4),(3,pb b5),(4,pb b6),(5,iv y7.1),(17,.bool true),(22,undef),(24,undef)] hF kr kr ⟨kr⟩ ⟨kr⟩ fun a hF=>?_
  refine Ch [(0,sv ad1 p0 cap2),(2,pb b4),(3,pb b5),(4,pb b6),(5,iv y7.1),(17,.bool true),(25,undef)] hF kr kr ⟨kr⟩ ⟨kr⟩ fun a hF=>?_
  refine Ek (rest:=[13,14,15,16,17,18,19,20,21,22]) (obs:=[]) [11,12] [(0,sv ad1 p0 cap2),(2,pb b4),(3,pb b5),(4,pb b6),(5,iv y7.1),(27,.bool true)] hF kr kr Aa ⟨kr⟩ fun a hF=>?_
  refine Ch [(0,sv ad1 p0 cap2),(2,pb b4),(3,pb b5),(4,pb b6),(5,iv y7.1),(27,.bool true),(28,undef)] hF kr kr ⟨kr⟩ ⟨kr⟩ fun a hF=>?_
  refine Ch [(0,sv ad1 p0 cap2),(2,pb b4),(3,pb b5),(4,pb b6),(5,iv y7.1),(27,.bool true),(28,undef),(29,undef)] hF kr kr ⟨kr⟩ ⟨kr⟩ fun a hF=>?_
  refine Ch [(0,sv ad1 p0 cap2),(2,pb b4),(3,pb b5),(4,pb b6),(5,iv y7.1),(27,.bool true),(28,undef),(30,undef)] hF kr kr ⟨kr⟩ ⟨kr⟩ fun a hF=>?_
  refine Ch [(0,sv ad1 p0 cap2),(2,pb b4),(3,pb b5),(4,pb b6),(5,iv y7.1),(27,.bool true),(28,undef),(31,undef)] hF kr kr ⟨kr⟩ ⟨kr⟩ fun a hF=>?_
  refine Ch [(0,sv ad1 p0 cap2),(2,pb b4),(3,pb b5),(4,pb b6),(5,iv y7.1),(27,.bool true),(32,undef)] hF kr kr ⟨kr⟩ ⟨kr⟩ fun a hF=>?_
  refine Ch [(0,sv ad1 p0 cap2),(2,pb b4),(3,pb b5),(4,pb b6),(5,iv y7.1),(27,.bool true),(32,undef),(33,undef)] hF kr kr ⟨kr⟩ ⟨kr⟩ fun a hF=>?_
  refine Ch [(2,pb b4),(3,pb b5),(4,pb b6),(5,iv y7.1),(27,.bool true),(32,undef),(33,undef),(34,undef)] hF kr kr ⟨kr⟩ ⟨kr⟩ fun a hF=>?_
  refine Ch [(2,pb b4),(3,pb b5),(4,pb b6),(5,iv y7.1),(27,.bool true),(32,undef),(33,undef),(35,undef)] hF kr kr ⟨kr⟩ ⟨kr⟩ fun a hF=>?_
  refine Ch [(2,pb b4),(3,pb b5),(4,pb b6),(5,iv y7.1),(27,.bool true),(32,undef),(33,undef),(36,undef)] hF kr kr ⟨kr⟩ ⟨kr⟩ fun a hF=>?_
  refine Ch [(2,pb b4),(3,pb b5),(4,pb b6),(5,iv y7.1),(27,.bool true),(32,undef),(37,undef)] hF kr kr ⟨kr⟩ ⟨kr⟩ fun a hF=>?_
  refine WRun.fin ?_
  refine all_cons ?_ Ay
  refine Hq [(2,pb b4),(3,pb b5),(4,pb b6),(5,iv y7.1),(27,.bool true),(32,undef),(38,undef)] hF kr ⟨kr⟩ ⟨kr⟩ fun a hF=>?_
  refine ⟨⟨St.pick [1,2,3] (by decide) hS,(hS.frz (i:=0) rfl hlow)⟩,?_⟩
  refine WT.s [] [24] kr kr ?_
  refine WRun.fin ?_
  refine all_cons ?_ Ay
  refine Hq [(2,pb b4),(3,pb b5),(4,pb b6),(5,iv y7.1),(27,.bool true),(39,undef)] hF kr ⟨kr⟩ ⟨kr⟩ fun a hF=>?_
  refine ⟨⟨St.pick [1,2,3] (by decide) hS,(hS.frz (i:=0) rfl hlow)⟩,?_⟩
  refine WT.z [25,26] kr ?_
  refine Ch [(2,pb b4),(3,pb b5),(4,pb b6),(5,iv y7.1),(27,.bool true),(40,undef)] hF kr kr ⟨kr⟩ ⟨kr⟩ fun a hF=>?_
  refine Ek (rest:=[]) (obs:=[]) [26] [(2,pb b4),(3,pb b5),(4,pb b6),(5,iv y7.1),(41,.bool true)] hF kr kr Aa ⟨kr⟩ fun a hF=>?_
  refine WRun.fin ?_
  refine wfn rfl ?_
  refine wpIn_cond_true (hF.get rfl) ?_
  refine esr ?_
  refine SK.wi (Ap (t:=72) [(2,pb b4),(3,pb b5)] 3 0 (.nilIface) #[.nilIface] hF hS rfl kr ⟨kr⟩ kr kr kr kr ⟨kr⟩ fun w a hF hS=>?_)
  refine SK.wi (Ap (t:=28) [(2,pb b4),(3,pb b5)] 2 0 (iv 15) #[iv 15] hF hS rfl kr ⟨kr⟩ kr kr kr kr ⟨kr⟩ fun w a hF hS=>?_)
  refine wfn rfl ?_
  refine wpIn_ret (Ab<|Sd [.cell 2 72,.cell 3 28] [.nilIface,iv 15] hF rfl ⟨⟨_,rfl,Bm kr (hS.cell (i:=3) (j:=0) rfl rfl)⟩,⟨_,rfl,Bm kr (hS.cell (i:=2) (j:=0) rfl rfl)⟩,trivial⟩ ?_)
  have hr_:=Option.some.inj h
  subst hr_
  exact ⟨_,rfl,ν8,.nilIface,hext,rfl,(show volume_thing.R _ .nilIface .nil_ from rfl),St.pick [0] (by decide) hS⟩
 ·replace h:=An h aC
  rw [aC] at hF
  replace h:=A4 h
  obtain ⟨aN,b2,h⟩:=h
  refine Ek (rest:=[13,14,15,16,17,18,19,20,21,22]) (obs:=[.run [⟨17,false,false⟩] (Instr.loadAt 23 (pb b6)) (sv a4 y7.2.2.b a0),.run [⟨17,false,false⟩] (binOp .add 3 (iv y7.1) (iv 5)) (iv aN)]) [3,4,5,6,7,8,9,10,11,12] [(0,sv ad1 p0 cap2),(2,pb b4),(3,pb b5),(4,pb b6),(5,iv y7.1),(27,.bool ((ln y7.2.2.b) != aN))] hF kr kr (A0 (ob1 kr (fun _ hd=>hd.1.cell (i:=0) (j:=0) rfl rfl)) (A0 (Aw (fun _=>b2)) Aa)) ⟨kr⟩ fun a hF=>?_
  rcases Bool.eq_false_or_eq_true (((ln y7.2.2.b) != aN)) with aD|aD
  ·replace h:=Ao h aD
   rw [aD] at hF
   refine Ch [(0,sv ad1 p0 cap2),(2,pb b4),(3,pb b5),(4,pb b6),(5,iv y7.1),(27,.bool true),(28,undef)] hF kr kr ⟨kr⟩ ⟨kr⟩ fun a hF=>?_
   refine Ch [(0,sv ad1 p0 cap2),(2,pb b4),(3,pb b5),(4,pb b6),(5,iv y7.1),(27,.bool true),(28,undef),(29,undef)] hF kr kr ⟨kr⟩ ⟨kr⟩ fun a hF=>?_
   refine Ch [(0,sv ad1 p0 cap2),(2,pb b4),(3,pb b5),(4,pb b6),(5,iv y7.1),(27,.bool true),(28,undef),(30,undef)] hF kr kr ⟨kr⟩ ⟨kr⟩ fun a hF=>?_
   refine Ch [(0,sv ad1 p0 cap2),(2,pb b4),(3,pb b5),(4,pb b6),(5,iv y7.1),(27,.bool true),(28,undef),(31,undef)] hF kr kr ⟨kr⟩ ⟨kr⟩ fun a hF=>?_
   refine Ch [(0,sv ad1 p0 cap2),(2,pb b4),(3,pb b5),(4,pb b6),(5,iv y7.1),(27,.bool true),(32,undef)] hF kr kr ⟨kr⟩ ⟨kr⟩ fun a hF=>?_
   refine Ch [(0,sv ad1 p0 cap2),(2,pb b4),(3,pb b5),(4,pb b6),(5,iv y7.1),(27,.bool true),(32,undef),(33,undef)] hF kr kr ⟨kr⟩ ⟨kr⟩ fun a hF=>?_
   refine Ch [(2,pb b4),(3,pb b5),(4,pb b6),(5,iv y7.1),(27,.bool true),(32,undef),(33,undef),(34,undef)] hF kr kr ⟨kr⟩ ⟨kr⟩ fun a hF=>?_
   refine Ch [(2,pb b4),(3,pb b5),(4,pb b6),(5,iv y7.1),(27,.bool true),(32,undef),(33,undef),(35,undef)] hF kr kr ⟨kr⟩ ⟨kr⟩ fun a hF=>?_
   refine Ch [(2,pb b4),(3,pb b5),(4,pb b6),(5,iv y7.1),(27,.bool true),(32,undef),(33,undef),(36,undef)] hF kr kr ⟨kr⟩ ⟨kr⟩ fun a hF=>?_
   refine Ch [(2,pb b4),(3,pb b5),(4,pb b6),(5,iv y7.1),(27,.bool true),(32,undef),(37,undef)] hF kr kr ⟨kr⟩ ⟨kr⟩ fun a hF=>?_
   refine WRun.fin ?_
   refine all_cons ?_ Ay
   refine Hq [(2,pb b4),(3,pb b5),(4,pb b6),(5,iv y7.1),(27,.bool true),(32,undef),(38,undef)] hF kr ⟨kr⟩ ⟨kr⟩ fun a hF=>?_
   refine ⟨⟨St.pick [1,2,3] (by decide) hS,(hS.frz (i:=0) rfl hlow)⟩,?_⟩
   refine WT.s [] [24] kr kr ?_
   refine WRun.fin ?_
   refine all_cons ?_ Ay
   refine Hq [(2,pb b4),(3,pb b5),(4,pb b6),(5,iv y7.1),(27,.bool true),(39,undef)] hF kr ⟨kr⟩ ⟨kr⟩ fun a hF=>?_
   refine ⟨⟨St.pick [1,2,3] (by decide) hS,(hS.frz (i:=0) rfl hlow)⟩,?_⟩
   refine WT.z [25,26] kr ?_
   refine Ch [(2,pb b4),(3,pb b5),(4,pb b6),(5,iv y7.1),(27,.bool true),(40,undef)] hF kr kr ⟨kr⟩ ⟨kr⟩ fun a hF=>?_
   refine Ek (rest:=[]) (obs:=[]) [26] [(2,pb b4),(3,pb b5),(4,pb b6),(5,iv y7.1),(41,.bool true)] hF kr kr Aa ⟨kr⟩ fun a hF=>?_
   refine WRun.fin ?_
   refine wfn rfl ?_
   refine wpIn_cond_true (hF.get rfl) ?_
   refine esr ?_
   refine SK.wi (Ap (t:=72) [(2,pb b4),(3,pb b5)] 3 0 (.nilIface) #[.nilIface] hF hS rfl kr ⟨kr⟩ kr kr kr kr ⟨kr⟩ fun w a hF hS=>?_)
   refine SK.wi (Ap (t:=28) [(2,pb b4),(3,pb b5)] 2 0 (iv 15) #[iv 15] hF hS rfl kr ⟨kr⟩ kr kr kr kr ⟨kr⟩ fun w a hF hS=>?_)
   refine wfn rfl ?_
   refine wpIn_ret (Ab<|Sd [.cell 2 72,.cell 3 28] [.nilIface,iv 15] hF rfl ⟨⟨_,rfl,Bm kr (hS.cell (i:=3) (j:=0) rfl rfl)⟩,⟨_,rfl,Bm kr (hS.cell (i:=2) (j:=0) rfl rfl)⟩,trivial⟩ ?_)
   have hr_:=Option.some.inj h
   subst hr_
   exact ⟨_,rfl,ν8,.nilIface,hext,rfl,(show volume_thing.R _ .nilIface .nil_ from rfl),St.pick [0] (by decide) hS⟩
  ·replace h:=An h aD
   rw [aD] at hF
   replace h:=A4 h
   obtain ⟨a2,b3,h⟩:=h
   replace h:=A4 h
   obtain ⟨a5,aQ,h⟩:=h
   have a9:ArrM ν8 1 (fK .u8) (Am ad1 cap2 a2.toNat 1) (cap2-a2.toNat) a5:=fun w_ hw_=>(hA3 w_ hw_).cutD (Cf .u8) aQ
   replace h:=A4 h
   obtain ⟨aY,b7,h⟩:=h
   replace h:=A4 h
   obtain ⟨aM,aR,h⟩:=h
   have aA:ArrM ν8 1 (fK .u8) (Am ad1 cap2 (0:Int).toNat 1) (cap2-(0:Int).toNat) aM:=fun w_ hw_=>(hA3 w_ hw_).cutD (Cf .u8) aR
   refine Wm (rest:=[]) (obs:=[.run [⟨27,false,false⟩] (binOp .sub 3 (iv (ln p0)) (iv 5)) (iv a2),.run [⟨27,false,false⟩] (Instr.sliceAt 23 (sv ad1 p0 cap2) (some (iv a2)) none none) (.slice (Am ad1 cap2 a2.toNat 1) a5.length (cap2-a2.toNat)),.run [⟨27,false,false⟩] (binOp .sub 3 (iv (ln p0)) (iv 5)) (iv aY),.run [⟨27,false,false⟩] (Instr.sliceAt 23 (sv ad1 p0 cap2) none (some (iv aY)) none) (.slice (Am ad1 cap2 (0:Int).toNat 1) aM.length (cap2-(0:Int).toNat))]) [13,14,15,16,17,18,19,20,21,22] [(2,⟨[],pb b4⟩),(3,⟨[],pb b5⟩),(4,⟨[],pb b6⟩),(5,⟨[],iv y7.1⟩),(27,⟨[],.bool false⟩),(32,⟨[⟨27,false,false⟩],.slice (Am ad1 cap2 a2.toNat 1) a5.length (cap2-a2.toNat)⟩),(37,⟨[⟨27,false,false⟩],.slice (Am ad1 cap2 (0:Int).toNat 1) aM.length (cap2-(0:Int).toNat)⟩)] hF kr kr (A0 (Jk (fun _=>b3)) (A0 (M3 kr (hA3 _ (hS.frz (i:=0) rfl hlow)) (fun _=>aQ)) (A0 (Jk (fun _=>b7)) (A0 (P0 kr (hA3 _ (hS.frz (i:=0) rfl hlow)) (fun _=>aR)) Aa)))) ⟨kr⟩ kr fun a hF=>?_
   replace hF:Fr 64 [] [(2,pb b4),(3,pb b5),(4,pb b6),(5,iv y7.1),(27,.bool false),(32,.slice (Am ad1 cap2 a2.toNat 1) a5.length (cap2-a2.toNat)),(37,.slice (Am ad1 cap2 (0:Int).toNat 1) aM.length (cap2-(0:Int).toNat))] a:=hF
   refine WRun.fin ?_
   refine all_cons ?_ Ay
   replace h:=A4 h
   obtain ⟨a3,b8,h⟩:=h
   refine Bz (fun aU=>[(2,pb b4),(3,pb b5),(4,pb b6),(5,iv y7.1),(27,.bool false),(32,.slice (Am ad1 cap2 a2.toNat 1) a5.length (cap2-a2.toNat)),(38,aU)]) hF kr ⟨kr⟩ (Pt F _ _ b8 (Bp w) w (A7 w) (aA.mono (FrzAt.le_mem (hS.frz (i:=0) rfl hlow)))) (fun _=>⟨kr⟩) ?_
   rintro aU w a ⟨aG,aI,rfl,hQ⟩ hF
   replace hS:=hS.madeL hQ
   refine ⟨⟨St.pick [2,3,4] (by decide) hS,(hS.frz (i:=1) rfl hlow)⟩,?_⟩
   refine WT.s [] [24] kr kr ?_
   refine WRun.fin ?_
   refine all_cons ?_ Ay
   refine F2 [(2,pb b4),(3,pb b5),(4,pb b6),(5,iv y7.1),(27,.bool false),(39,.bool (Ex a5 a3))] hF kr ⟨kr⟩ (Nr a5 a3 _ rfl (Bp w) w (A7 w) (a9.mono (FrzAt.le_mem (hS.frz (i:=1) rfl hlow))) (Arr.toM (hS.arr (i:=0) rfl))) ⟨kr⟩ ?_
   intro w a hx hF
   replace hS:=hS.later hx
   refine ⟨⟨St.pick [2,3,4] (by decide) hS,(hS.frz (i:=1) rfl hlow)⟩,?_⟩
   refine WT.z [25,26] kr ?_
   refine Ek (rest:=[]) (obs:=[]) [25,26] [(2,pb b4),(3,pb b5),(4,pb b6),(5,iv y7.1),(41,.bool (!(Ex a5 a3)))] hF kr kr Aa ⟨kr⟩ fun a hF=>?_
   refine WRun.fin ?_
   refine wfn rfl ?_
   refine As hF rfl (fun hc=>?_) (fun hc=>?_)
   ·replace h:=Ao h hc
    refine esr ?_
    refine SK.wi (Ap (t:=72) [(2,pb b4),(3,pb b5)] 4 0 (.nilIface) #[.nilIface] hF hS rfl kr ⟨kr⟩ kr kr kr kr ⟨kr⟩ fun w a hF hS=>?_)
    refine SK.wi (Ap (t:=28) [(2,pb b4),(3,pb b5)] 3 0 (iv 15) #[iv 15] hF hS rfl kr ⟨kr⟩ kr kr kr kr ⟨kr⟩ fun w a hF hS=>?_)
    refine wfn rfl ?_
    refine wpIn_ret (Ab<|Sd [.cell 2 72,.cell 3 28] [.nilIface,iv 15] hF rfl ⟨⟨_,rfl,Bm kr (hS.cell (i:=4) (j:=0) rfl rfl)⟩,⟨_,rfl,Bm kr (hS.cell (i:=3) (j:=0) rfl rfl)⟩,trivial⟩ ?_)
    have hr_:=Option.some.inj h
    subst hr_
    exact ⟨_,rfl,ν8,.nilIface,hext,rfl,(show volume_thing.R _ .nilIface .nil_ from rfl),St.pick [1] (by decide) hS⟩
   ·replace h:=An h hc
    refine wpIn_skip (A1 ?_)
    refine esr ?_
    replace h:=A4 h
    obtain ⟨aE,aS,h⟩:=h
    have aB:ArrM ν8 1 (fK .u8) (Am a4 a0 (0:Int).toNat 1) (a0-(0:Int).toNat) aE:=fun w_ hw_=>(a8 w_ hw_).cutD (Cf .u8) aS
    refine rno 9 [.run [] (Instr.loadAt 23 (pb b6)) (sv a4 y7.2.2.b a0),.run [] (Instr.sliceAt 23 (sv a4 y7.2.2.b a0) none (some (iv y7.1)) none) (.slice (Am a4 a0 (0:Int).toNat 1) aE.length (a0-(0:Int).toNat))] 9 [(2,pb b4),(3,pb b5),(4,pb b6),(48,.slice (Am a4 a0 (0:Int).toNat 1) aE.length (a0-(0:Int).toNat)),(50,pb b6)] hF (A0 (ob1 kr (fun _ hd=>(hS.at_ hd).cell (i:=2) (j:=0) rfl rfl)) (A0 (P0 kr (a8 _ (hS.frz (i:=1) rfl hlow)) (fun _=>aS)) Aa)) fun a hF=>?_
    refine SK.wi (Ap (t:=23) [(2,pb b4),(3,pb b5),(4,pb b6)] 2 0 (.slice (Am a4 a0 (0:Int).toNat 1) aE.length (a0-(0:Int).toNat)) #[.slice (Am a4 a0 (0:Int).toNat 1) aE.length (a0-(0:Int).toNat)] hF hS rfl kr ⟨kr⟩ kr kr kr kr ⟨kr⟩ fun w a hF hS=>?_)
    refine wfn rfl ?_
    refine esr ?_
    refine rn 1 1 [(2,pb b4),(3,pb b5),(4,pb b6),(51,.func (.func 40) #[] #[pb b4,pb b5])] hF fun a hF=>?_
    refine Y0 2 ⟨.fn (.func 40) #[pb b4,pb b5],#[]⟩ [(2,pb b4),(3,pb b5),(4,pb b6)] hF kr ⟨kr⟩ ⟨kr⟩ rfl fun a hF=>?_
    refine wfn rfl ?_
    refine esr ?_
    refine rn 1 1 [(2,pb b4),(3,pb b5),(4,pb b6),(52,pb b6)] hF fun a hF=>?_
    replace h:=A4 h
    obtain ⟨bH,b9,h⟩:=h
    replace hS:=hS.s2.s2
    refine Dv (fun aV=>[(2,pb b4),(3,pb b5),(4,pb b6),(53,aV)]) hF kr ⟨kr⟩ (Mq F _ _ b9 ν8 w0 w _ hlow aB hS) (fun _=>⟨kr⟩) ?_ ?_
    ·rintro b1 w he_ ⟨ν42,aZ,b0,a7,hlow,bG,hS⟩
     replace h:=G3 h he_
     replace hext:=Frz.ext_trans hext a7
     replace hA3:=hA3.mono a7.1
     replace a8:=a8.mono a7.1
     replace a9:=a9.mono a7.1
     replace aA:=aA.mono a7.1
     replace aB:=aB.mono a7.1
     replace aL:=Frz.le_trans aL a7.1
     replace h:=A4 h
     obtain ⟨aO,bC,h⟩:=h
     rw [Vd bC]
     refine A6<|Pz [.cell 2 72,.cell 3 28] hF rfl (fun _=>by kernel_rfl) ?_
     refine CallsDIn.mono (Mc .nilIface 0 aO (by simpa using St.pick [4,3,0,1,2] (by decide) hS)) ?_
     rintro e u_ w ⟨rfl,hu_,hS⟩
     replace hS:St w0 [blk b4 72 #[.nilIface],blk b5 28 #[iv aO],fz w0 ν42,blk b6 98 #[sv aZ b1.2.b b0],arr 5 1 (fK .u8) aG a3.length aI a3] w:=hS
     refine ⟨_,rfl,hu_,[.nilIface,iv aO],⟨⟨_,rfl,Bm kr (hS.cell (i:=0) (j:=0) rfl rfl)⟩,⟨_,rfl,Bm kr (hS.cell (i:=1) (j:=0) rfl rfl)⟩,trivial⟩,?_⟩
     have hr_:=Option.some.inj h
     subst hr_
     exact ⟨_,rfl,ν42,.nilIface,hext,rfl,(show volume_thing.R _ .nilIface .nil_ from rfl),St.pick [2] (by decide) hS⟩
    rintro aF aV w a he_ ⟨ν34,a1,aH,aJ,a6,hlow,hv_,aK,bF,hS⟩ hF
    replace h:=G4 h he_
    try rw [hv_] at hF
    replace hext:=Frz.ext_trans hext a6
    replace hA3:=hA3.mono a6.1
    replace a8:=a8.mono a6.1
    replace a9:=a9.mono a6.1
    replace aA:=aA.mono a6.1
    replace aB:=aB.mono a6.1
    replace aL:=Frz.le_trans aL a6.1
    refine SK.wi (Wr (t:=72) [(2,pb b4),(3,pb b5),(4,pb b6)] 4 0 a1 #[a1] aK.one hF hS rfl kr ⟨kr⟩ kr kr kr ⟨kr⟩ fun w a hF hS=>?_)
    refine wfn rfl ?_
    refine esr ?_
    refine rno 1 [.run [] (Instr.loadAt 72 (pb b4)) (a1)] 1 [(2,pb b4),(3,pb b5),(4,pb b6),(54,a1)] hF (A0 (ob1 kr (fun _ hd=>(hS.at_ hd).cell (i:=4) (j:=0) rfl rfl)) Aa) fun a hF=>?_
    replace h:=A4 h
    obtain ⟨bI,bA,h⟩:=h
    refine SK.wi (W5 (fun aW=>[(2,pb b4),(3,pb b5),(4,pb b6),(55,aW)]) hF kr ⟨kr⟩ (Np F _ _ bA (Bp w) w (A7 w) (aK.mono (FrzAt.le_mem (hS.frz (i:=0) rfl hlow)))) (fun _=>⟨kr⟩) ?_)
    rintro aW w a ⟨rfl,hx⟩ hF
    replace hS:=hS.later hx
    replace h:=A4 h
    obtain ⟨bJ,bB,h⟩:=h
    refine Xw (fun bE=>[(2,pb b4),(3,pb b5),(4,pb b6)]) hF kr ⟨kr⟩ (M9 F _ _ bB (Bp w) w (A7 w)) (fun _=>⟨kr⟩) ?_ ?_
    ·intro v_ w he_ hx
     replace hS:=hS.later hx
     replace h:=G3 h he_
     replace h:=A4 h
     obtain ⟨aP,bD,h⟩:=h
     rw [Vd bD]
     refine A6<|Pz [.cell 2 72,.cell 3 28] hF rfl (fun _=>by kernel_rfl) ?_
     refine CallsDIn.mono (Mc a1 0 aP (by simpa using St.pick [4,3,0,1,2] (by decide) hS)) ?_
     rintro e u_ w ⟨rfl,hu_,hS⟩
     replace hS:St w0 [blk b4 72 #[.nilIface],blk b5 28 #[iv aP],fz w0 ν34,blk b6 98 #[sv aH aF.2.b aJ],arr 5 1 (fK .u8) aG a3.length aI a3] w:=hS
     refine ⟨_,rfl,hu_,[.nilIface,iv aP],⟨⟨_,rfl,Bm kr (hS.cell (i:=0) (j:=0) rfl rfl)⟩,⟨_,rfl,Bm kr (hS.cell (i:=1) (j:=0) rfl rfl)⟩,trivial⟩,?_⟩
     have hr_:=Option.some.inj h
     subst hr_
     exact ⟨_,rfl,ν34,.nilIface,hext,rfl,(show volume_thing.R _ .nilIface .nil_ from rfl),St.pick [2] (by decide) hS⟩
    rintro bK bE w a he_ ⟨rfl,hx⟩ hF
    replace h:=G4 h he_
    replace hS:=hS.later hx
    refine wfn rfl ?_
    refine B0 ?_
    refine esr ?_
    refine rno 6 [.run [] (Instr.loadAt 23 (pb b6)) (sv aH aF.2.b aJ)] 6 [(2,pb b4),(3,pb b5),(62,.bool (decide ((ln aF.2.b)>0)))] hF (A0 (ob1 kr (fun _ hd=>(hS.at_ hd).cell (i:=1) (j:=0) rfl rfl)) Aa) fun a hF=>?_
    refine wfn rfl ?_
    refine As hF rfl (fun hc=>?_) (fun hc=>?_)
    ·replace h:=Ao h hc
     refine esr ?_
     refine SK.wi (Ap (t:=72) [(2,pb b4),(3,pb b5)] 4 0 (.nilIface) #[.nilIface] hF hS rfl kr ⟨kr⟩ kr kr kr kr ⟨kr⟩ fun w a hF hS=>?_)
     refine SK.wi (Ap (t:=28) [(2,pb b4),(3,pb b5)] 3 0 (iv 7) #[iv 7] hF hS rfl kr ⟨kr⟩ kr kr kr kr ⟨kr⟩ fun w a hF hS=>?_)
     refine wfn rfl ?_
     refine wpIn_ret (Ab<|Se [.cell 2 72,.cell 3 28] hF rfl (fun _=>by kernel_rfl) ?_)
     refine CallsDIn.mono (Mb .nilIface 7 (by simpa using St.pick [4,3,0,1,2] (by decide) hS)) ?_
     rintro e u_ w ⟨rfl,hu_,hS⟩
     replace hS:St w0 [blk b4 72 #[.nilIface],blk b5 28 #[iv 7],fz w0 ν34,blk b6 98 #[sv aH aF.2.b aJ],arr 5 1 (fK .u8) aG a3.length aI a3] w:=hS
     refine ⟨_,rfl,hu_,[.nilIface,iv 7],⟨⟨_,rfl,Bm kr (hS.cell (i:=0) (j:=0) rfl rfl)⟩,⟨_,rfl,Bm kr (hS.cell (i:=1) (j:=0) rfl rfl)⟩,trivial⟩,?_⟩
     have hr_:=Option.some.inj h
     subst hr_
     exact ⟨_,rfl,ν34,.nilIface,hext,rfl,(show volume_thing.R _ .nilIface .nil_ from rfl),St.pick [2] (by decide) hS⟩
    ·replace h:=An h hc
     refine wpIn_skip (A1 ?_)
     refine esr ?_
     refine rno 1 [.run [] (Instr.loadAt 72 (pb b4)) (a1)] 1 [(2,pb b4),(3,pb b5),(63,a1)] hF (A0 (ob1 kr (fun _ hd=>(hS.at_ hd).cell (i:=4) (j:=0) rfl rfl)) Aa) fun a hF=>?_
     refine SK.wi (Wr (t:=72) [(2,pb b4),(3,pb b5)] 4 0 a1 #[a1] aK.one hF hS rfl kr ⟨kr⟩ kr kr kr ⟨kr⟩ fun w a hF hS=>?_)
     refine SK.wi (Ap (t:=28) [(2,pb b4),(3,pb b5)] 3 0 (iv 0) #[iv 0] hF hS rfl kr ⟨kr⟩ kr kr kr kr ⟨kr⟩ fun w a hF hS=>?_)
     refine wfn rfl ?_
     refine wpIn_ret (Se [.cell 2 72,.cell 3 28] hF rfl (fun _=>by kernel_rfl) ?_)
     refine CallsDIn.mono (Mb a1 0 (by simpa using St.pick [4,3,0,1,2] (by decide) hS)) ?_
     rintro e u_ w ⟨rfl,hu_,hS⟩
     replace hS:St w0 [blk b4 72 #[a1],blk b5 28 #[iv 0],fz w0 ν34,blk b6 98 #[sv aH aF.2.b aJ],arr 5 1 (fK .u8) aG a3.length aI a3] w:=hS
     refine ⟨_,rfl,hu_,[a1,iv 0],⟨⟨_,rfl,Bm kr (hS.cell (i:=0) (j:=0) rfl rfl)⟩,⟨_,rfl,Bm kr (hS.cell (i:=1) (j:=0) rfl rfl)⟩,trivial⟩,?_⟩
     have hr_:=Option.some.inj h
     subst hr_
     exact ⟨_,rfl,ν34,a1,hext,rfl,aK,St.pick [2] (by decide) hS⟩
end Go.Proofs.Ytifbomimeodibaa
