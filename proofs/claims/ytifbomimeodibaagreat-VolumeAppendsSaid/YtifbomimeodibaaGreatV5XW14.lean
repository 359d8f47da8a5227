import Derived.Test.YtifbomimeodibaaGreatV5XD
import Derived.Test.YtifbomimeodibaaGreatProg
import Derived.Test.YtifbomimeodibaaGreatV5XW1
import Derived.Test.YtifbomimeodibaaGreatV5XW2
import Derived.Test.YtifbomimeodibaaGreatV5XW4
import Derived.Test.YtifbomimeodibaaGreatV5XW7
import Derived.Test.YtifbomimeodibaaGreatV5XW10
import Derived.Test.YtifbomimeodibaaGreatV5XW12
import Derived.Test.YtifbomimeodibaaGreatV5XW13
namespace Go.Proofs.YtifbomimeodibaaGreat
open Go Go.RowKit Go.Eng
set_option maxRecDepth 10000
set_option maxHeartbeats 4000000
set_option linter.unusedVariables false
set_option linter.unusedSimpArgs false
theorem Ti (F:Nat) (p0:volume_Item) (res:(volume_thing×Int)) (h:Fo F p0=some res) (μ:Frz) (w0:World) (hm:FrzAt μ w0) {ad1:Option Addr} {cap2:Nat} {css3:List (List Value)} {ad4:Option Addr} {cap5:Nat} (hA6:ArrQ μ 1 Rp87 ad1 cap2 css3 p0.Sweep.Rays) (hA7:ArrM μ 2 api_Span.cells ad4 cap5 p0.Field.Vals):Ba Tryz.prog 41 #[.agg (p0.ax ad1 cap2 ad4 cap5)] w0 (fun e w=>∃(ν_:Frz) (aB:Value),μ.ext w0.heap.size ν_∧e=(.tuple #[aB,iv res.2])∧volume_thing.R ν_ aB res.1∧St w0 [fz w0 ν_] w):=by
 obtain ⟨hlow,hS⟩:=hm.init
 have hext:=Frz.ext_refl w0.heap.size μ
 rw [Fo] at h
 refine feW Tryz.func41 12 [(0,.agg (p0.ax ad1 cap2 ad4 cap5))] hS fun a w hF hS=>?_
 refine esr<|SK.wi (qBa 48 (p0.ax ad1 cap2 ad4 cap5) (fun b8=>[(1,pb b8)]) hF hS fun b8 w a hF hS=>?_)
 refine qn 2 3 [] hF fun a hF=>wfn rfl ?_
 refine esr<|ro 1 1 [(5,.agg (p0.ax ad1 cap2 ad4 cap5))] hF (oN 48 0 0 21 hS.i rfl<|A1) fun a hF=>?_
 refine SK.wi (rR (fun v9=>[(6,v9)]) hF (X9 p0 _ rfl μ w (hS.frz (i:=1) rfl hlow) hA6 hA7) ?_)
 rintro v9 w a ⟨ν10,aA,a7,hv_,a1,hQ⟩ hF
 try rw [hv_] at hF
 replace hext:=hext.t (Frz.ext_mono a7 hS.ext.size)
 obtain ⟨hlow,hS⟩:=hS.frzMerge (i:=1) rfl hlow a7 hQ
 replace hA6:=hA6.mono Rp87.mono a7.1
 replace hA7:=hA7.mono a7.1
 refine rn 1 3 [(4,aA)] hF fun a hF=>wfn rfl ?_
 refine Am<|Am ?_
 rcases a2:(Dd p0) with _|a0|a0|a0
 ·replace h:=volume_thing.toNil a2 h
  rw [a2] at a1
  obtain rfl:aA=.nilIface:=a1
  refine WI.region<|rn 2 2 [(4,.nilIface),(8,.bool true)] hF fun a hF=>wfn rfl ?_
  refine wpIn_cond_true (hF.get rfl) ?_
  refine rnB [(2,.nilIface),(3,iv 2)] hF fun a hF=>?_
  refine wpIn_ret (A2<|A7 [.tmp 2,.tmp 3] [_,_] hF rfl ⟨rfl,rfl,trivial⟩ ?_)
  obtain rfl:=Ae h
  exact ⟨_,rfl,ν10,.nilIface,hext,rfl,(show volume_thing.R _ .nilIface .nil_ from rfl),St.pick [1] (by decide) hS⟩
 ·replace h:=volume_thing.to156 a2 h
  rw [a2] at a1
  obtain ⟨aN,rfl,aE⟩:=a1
  obtain ⟨a3,a5,aD,rfl,a8⟩:=aE
  refine WI.region<|rn 2 2 [(4,.iface 156 (.agg (a0.Sweep.ax a3 a5))),(8,.bool false)] hF fun a hF=>wfn rfl ?_
  refine wpIn_cond_false (hF.get rfl) ?_
  refine wK<|esr ?_
  obtain ⟨aK,aH,h⟩:=A0 h
  refine rX 5 5 [(2,.iface 156 (.agg (a0.Sweep.ax a3 a5))),(3,iv aK)] hF (oC (fun w2 hd=>Lp F a0 _ aH _ w2 (A4 w2) (a8.mono Rp87.mono (FrzAt.le_mem ((hS.later hd).frz (i:=1) rfl hlow))))<|A1) fun a w hF hx=>?_
  replace hS:=hS.later hx
  refine wfn rfl ?_
  refine wpIn_ret (A7 [.tmp 2,.tmp 3] [_,_] hF rfl ⟨rfl,rfl,trivial⟩ ?_)
  obtain rfl:=Ae h
  exact ⟨_,rfl,ν10,(.iface 156 (.agg (a0.Sweep.ax a3 a5))),hext,rfl,(show volume_thing.R _ _ (.ic156 a0) from ⟨[.string a0.Sweep.Site.Name,iv a0.Sweep.Site.X,iv a0.Sweep.Site.Y,iv a0.Sweep.Site.Z,iv a0.Sweep.Site.Rose,iv a0.Sweep.Site.Gates,iv a0.Sweep.Site.Step,iv a0.Sweep.Site.Width,iv a0.Sweep.Tilt,iv a0.Sweep.Time,sv a3 a0.Sweep.Rays a5],rfl,⟨a3,a5,aD,rfl,a8⟩⟩),St.pick [1] (by decide) hS⟩
 ·replace h:=volume_thing.to158 a2 h
  rw [a2] at a1
  obtain ⟨aO,rfl,aF⟩:=a1
  obtain ⟨a4,a6,rfl,a9⟩:=aF
  refine WI.region<|rn 2 2 [(4,.iface 158 (.agg (a0.ax a4 a6))),(8,.bool false)] hF fun a hF=>wfn rfl ?_
  refine wpIn_cond_false (hF.get rfl) ?_
  refine wK<|esr ?_
  obtain ⟨aL,aI,h⟩:=A0 h
  refine rX 5 5 [(2,.iface 158 (.agg (a0.ax a4 a6))),(3,iv aL)] hF (oC (fun w2 hd=>Ln F a0 _ aI _ w2 (A4 w2) (a9.mono (FrzAt.le_mem ((hS.later hd).frz (i:=1) rfl hlow))))<|A1) fun a w hF hx=>?_
  replace hS:=hS.later hx
  refine wfn rfl ?_
  refine wpIn_ret (A7 [.tmp 2,.tmp 3] [_,_] hF rfl ⟨rfl,rfl,trivial⟩ ?_)
  obtain rfl:=Ae h
  exact ⟨_,rfl,ν10,(.iface 158 (.agg (a0.ax a4 a6))),hext,rfl,(show volume_thing.R _ _ (.ic158 a0) from ⟨[.string a0.key,iv a0.time,iv a0.Field.Grid.X,iv a0.Field.Grid.Y,iv a0.Field.Grid.Size,iv a0.Field.Grid.Wide,iv a0.Field.Grid.High,sv a4 a0.Field.Vals a6],rfl,⟨a4,a6,rfl,a9⟩⟩),St.pick [1] (by decide) hS⟩
 ·replace h:=volume_thing.to160 a2 h
  rw [a2] at a1
  obtain ⟨aC,rfl,aG⟩:=a1
  obtain rfl:aC=_:=aG
  refine WI.region<|rn 2 2 [(4,.iface 160 (.agg #[iv a0.time,.string a0.text])),(8,.bool false)] hF fun a hF=>wfn rfl ?_
  refine wpIn_cond_false (hF.get rfl) ?_
  refine wK<|esr ?_
  obtain ⟨aM,aJ,h⟩:=A0 h
  refine rX 5 5 [(2,.iface 160 (.agg #[iv a0.time,.string a0.text])),(3,iv aM)] hF (oC (fun w2 hd=>Mm F a0 _ aJ _ w2 (A4 w2))<|A1) fun a w hF hx=>?_
  replace hS:=hS.later hx
  refine wfn rfl ?_
  refine wpIn_ret (A7 [.tmp 2,.tmp 3] [_,_] hF rfl ⟨rfl,rfl,trivial⟩ ?_)
  obtain rfl:=Ae h
  exact ⟨_,rfl,ν10,(.iface 160 (.agg #[iv a0.time,.string a0.text])),hext,rfl,(show volume_thing.R _ _ (.ic160 a0) from ⟨[iv a0.time,.string a0.text],rfl,rfl⟩),St.pick [1] (by decide) hS⟩
theorem Qy (F:Nat) (p0:volume_thing) (p1:volume_writer) (res:volume_writer) (h:Kx F p0 p1=some res) (μ:Frz) (w0 w1:World) (T_:List Res) (hlow:Ax w0 μ) {v:Value} {cb1:Nat} {ad1:Option Addr} {cap2:Nat} (hv:volume_thing.R μ v p0) (hS:St w0 (fz w0 μ::blk cb1 138 #[sv ad1 p1.b cap2]::arrT 5 1 (fK .u8) ad1 p1.b.length cap2 p1.b::T_) w1):A2q Tryz.prog v "radome/volume.write" #[pb cb1] (fun f gs=>Ba Tryz.prog f gs w1 (fun e w=>∃(ν_:Frz) (ad3:Option Addr) (cap4:Nat),μ.ext w0.heap.size ν_∧Ax w0 ν_∧e=(.tuple #[])∧St w0 (fz w0 ν_::blk cb1 138 #[sv ad3 res.b cap4]::arrT 5 1 (fK .u8) ad3 res.b.length cap4 res.b::T_) w)):=by
 cases p0 with
 | nil_=>cases h
 | ic156 y =>
  obtain ⟨cs,rfl,hr⟩:=hv
  obtain ⟨ad5,cap6,css7,rfl,hA8⟩:=hr
  exact ⟨166,#[.agg (y.Sweep.ax ad5 cap6),pb cb1],by kernel_rfl,Qw F y p1 _ h μ w0 w1 T_ hlow hA8 hS⟩
 | ic158 y =>
  obtain ⟨cs,rfl,hr⟩:=hv
  obtain ⟨ad9,a0,rfl,a1⟩:=hr
  exact ⟨180,#[.agg (y.ax ad9 a0),pb cb1],by kernel_rfl,Qv F y p1 _ h μ w0 w1 T_ hlow a1 hS⟩
 | ic160 y =>
  obtain ⟨cs,rfl,hr⟩:=hv
  obtain rfl:=hr
  exact ⟨188,#[.agg #[iv y.time,.string y.text],pb cb1],by kernel_rfl,Rh F y p1 _ h μ w0 w1 T_ hlow hS⟩
theorem Ul (F:Nat) (p0:volume_thing) (res:(List Int)) (h:Kb F p0=some res) (μ:Frz) (w0:World) (hm:FrzAt μ w0) {v1:Value} (hA2:volume_thing.R μ v1 p0):Ba Tryz.prog 42 #[v1] w0 (fun e w=>∃zad0 zcap0,e=(sv zad0 res zcap0)∧St w0 [arr 5 1 (fK .u8) zad0 res.length zcap0 res] w):=by
 obtain ⟨hlow,hS⟩:=hm.init
 have hext:=Frz.ext_refl w0.heap.size μ
 rw [Kb] at h
 refine feW Tryz.func42 29 [(0,v1)] hS fun a w hF hS=>?_
 refine qnB [] hF fun a hF=>?_
 refine esr<|SK.wi (qA 138 #[.slice none 0 0] (fun b3=>[(3,pb b3)]) hF hS fun b3 w a hF hS=>?_)
 refine SK.wi (qA 138 #[.slice none 0 0] (fun b4=>[(4,pb b4)]) hF hS fun b4 w a hF hS=>wfn rfl ?_)
 refine esr<|qn 1 1 [(5,v1)] hF fun a hF=>?_
 replace hS:=hS.nilT 5 1 (fK .u8)
 obtain ⟨y5,hy5,h⟩:=A0 h
 replace hS:=hS.s2.s3
 refine SK.wi (Z9 (fun v8=>[(3,pb b3),(4,pb b4)]) hF kr ⟨kr⟩ (Qy F _ _ _ hy5 μ w0 w _ hlow hA2 hS) (fun _=>⟨kr⟩) ?_)
 rintro v8 w a ⟨ν6,ad9,a7,hx7,hlow,rfl,hS⟩ hF
 replace hext:=hext.t hx7
 replace hA2:=hA2.mono hx7.1
 refine wfn rfl ?_
 refine esr<|ro 3 3 [(3,pb b3),(4,pb b4),(9,iv (ln y5.b))] hF (oL 22 1 0 hS.i rfl rfl<|A1) fun a hF=>?_
 refine SK.wi (qL 3 69 1 [(ln y5.b)] (fun aB=>[(10,sb aB 1)]) H9 hF hS fun aB w a hF hS=>?_)
 replace hS:=hS.nilT 5 1 (fK .u8)
 obtain ⟨ν12,aD,hlow,hS,aO⟩:=hS.freeze (i:=2) (j:=1) rfl rfl (by decide) hlow
 replace hA2:=hA2.mono aD.1
 replace hext:=hext.t aD
 have a9:=ArrM.of_arr aO
 obtain ⟨aG,aM,h⟩:=A0 h
 replace hS:=hS.s4.s2
 refine SK.wi (qR (fun aP=>[]) hF (As F _ _ _ aM ν12 w0 w _ hlow a9 hS) ?_)
 rintro aP w a ⟨ν17,aH,aI,aA,hlow,rfl,hS⟩ hF
 replace hext:=hext.t aA
 replace hA2:=hA2.mono aA.1
 replace a9:=a9.mono aA.1
 refine wfn rfl ?_
 refine esr<|qo 4 4 [(13,sv aH aG.b aI),(15,sv ad9 y5.b a7)] hF (oL 22 1 0 hS.i rfl rfl<|oL 22 3 0 hS.i rfl rfl<|A1) fun a hF=>?_
 obtain ⟨a0,aJ,h⟩:=A0 h
 refine SK.wi (Ux (t:=22) (ty:=22) (bytes:=1) (l:=aG.b) (l':=y5.b) (fun a1 a2=>[(4,pb b4),(16,sv a1 a0 a2)]) 2 hF hS rfl kr ⟨kr⟩ kr (hS.arrT_ (i:=4) rfl) (fun _ _=>rfl) aJ (fun _ _=>⟨kr⟩) fun a1 a2 w a hF hS=>?_)
 refine rn 1 6 [(4,pb b4),(16,sv a1 a0 a2),(17,pb b4)] hF fun a hF=>?_
 refine SK.wi (qs 22 1 0 (sv a1 a0 a2) hF hS rfl fun w a hF hS=>wfn rfl ?_)
 refine Am ?_
 obtain ⟨aQ,aN,h⟩:=A0 h
 refine Bq 5 [4] _ (D:=fun w=>St w0 [blk b4 138 #[sv a1 a0 a2],arrT 5 1 (fK .u8) a1 a0.length a2 a0,blk b3 138 #[sv ad9 y5.b a7],arrT 5 1 (fK .u8) ad9 y5.b.length a7 y5.b] w∧FrzAt ν17 w) kr kr hF.size (fun w hx=>?_) (fun _ _ h=>h)
 replace hS:=hS.later hx
 refine ⟨⟨St.pick [1,2,3,4] (by decide) hS,hS.frz (i:=0) rfl hlow⟩,?_⟩
 have aT:=Frz.le_refl ν17
 refine WT.s [0,1,2,3] [4] kr kr ?_
 refine qC 4 [(19,sv a1 a0 a2),(21,sv a1 a0 a2)] hF (oL 22 0 0 (fun _ hd=>hd.1) rfl rfl<|oL 22 0 0 (fun _ hd=>hd.1) rfl rfl<|A1) fun a hF=>?_
 refine WRun.fin ?_
 refine all_cons ?_ (Aq)
 refine qR (fun aF=>[(22,aF)]) hF (S6 F _ _ aN (B0 w) w (A4 w) (Arr.toM (hS.arrT_ (i:=2) rfl))) ?_
 rintro aF w a ⟨aR,aS,rfl,hQ⟩ hF
 replace hS:=hS.madeL hQ
 refine ⟨⟨St.pick [2,3,4,5] (by decide) hS,(hS.frz (i:=1) rfl hlow)⟩,?_⟩
 refine WT.z [] kr ?_
 refine WRun.fin ?_
 obtain ⟨a5,aK,h⟩:=A0 h
 refine SK.wi (Ux (t:=22) (ty:=22) (bytes:=1) (l:=a0) (l':=aQ) (fun a3 a4=>[(4,pb b4),(23,sv a3 a5 a4)]) 3 hF hS rfl kr ⟨kr⟩ kr (hS.arr (i:=0) rfl) (fun _ _=>rfl) aK (fun _ _=>⟨kr⟩) fun a3 a4 w a hF hS=>?_)
 refine rn 1 7 [(4,pb b4),(23,sv a3 a5 a4),(24,pb b4)] hF fun a hF=>?_
 refine SK.wi (qs 22 2 0 (sv a3 a5 a4) hF hS rfl fun w a hF hS=>wfn rfl ?_)
 refine esr<|SK.wi (qL 5 22 1 [0] (fun aC=>[(25,sb aC 1)]) (B8 .u8) hF hS fun aC w a hF hS=>?_)
 refine qo 2 3 [(27,sv a3 a5 a4)] hF (oL 22 3 0 hS.i rfl rfl<|A1) fun a hF=>?_
 obtain ⟨aE,aL,h⟩:=A0 h
 refine SK.wi (qP 22 22 0 (fun a6 a8=>[(28,sv a6 aE a8)]) hF hS (hS.arrT_ (i:=4) rfl) aL rfl fun a6 a8 w a hF hS=>?_)
 refine rn 1 5 [(2,sv a6 aE a8)] hF fun a hF=>wfn rfl ?_
 refine wpIn_ret (A7 [.tmp 2] [_] hF rfl ⟨rfl,trivial⟩ ?_)
 obtain rfl:=Ae h
 exact ⟨_,rfl,_,_,rfl,St.pick [0] (by decide) hS⟩
end Go.Proofs.YtifbomimeodibaaGreat
