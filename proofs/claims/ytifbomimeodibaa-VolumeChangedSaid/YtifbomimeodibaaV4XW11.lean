import Derived.Test.YtifbomimeodibaaV4XD
import Derived.Test.YtifbomimeodibaaProg
import Derived.Test.YtifbomimeodibaaV4XW1
import Derived.Test.YtifbomimeodibaaV4XW4
import Derived.Test.YtifbomimeodibaaV4XW10
namespace Go.Proofs.Ytifbomimeodibaa
open Go Go.RowKit Go.Eng
set_option maxRecDepth 10000
set_option maxHeartbeats 4000000
set_option linter.unusedVariables false
set_option linter.unusedSimpArgs false
theorem Ke (F:Nat) (p0:volume_Item) (res:((List Int)×Int)) (h:H0 F p0=some res) (μ:Frz) (w0:World) (hm:FrzAt μ w0) {ad1:Option Addr} {cap2:Nat} {css3:List (List Value)} {ad4:Option Addr} {cap5:Nat} (hA6:ArrQ μ 1 Rp83 ad1 cap2 css3 p0.Sweep.Rays) (hA7:ArrM μ 2 api_Span.cells ad4 cap5 p0.Field.Vals):Dd Try.prog 13 #[.agg #[iv p0.Kind,.string p0.Name,iv p0.Time,.string p0.Sweep.Site.Name,iv p0.Sweep.Site.X,iv p0.Sweep.Site.Y,iv p0.Sweep.Site.Z,iv p0.Sweep.Site.Rose,iv p0.Sweep.Site.Gates,iv p0.Sweep.Site.Step,iv p0.Sweep.Site.Width,iv p0.Sweep.Tilt,iv p0.Sweep.Time,sv ad1 p0.Sweep.Rays cap2,iv p0.Field.Grid.X,iv p0.Field.Grid.Y,iv p0.Field.Grid.Size,iv p0.Field.Grid.Wide,iv p0.Field.Grid.High,sv ad4 p0.Field.Vals cap5,.string p0.Text]] w0 (fun e w=>∃zad0 zcap0,e=(.tuple #[sv zad0 res.1 zcap0,iv res.2])∧St w0 [arr 5 1 (fK .u8) zad0 res.1.length zcap0 res.1] w):=by
 obtain ⟨hlow,hS⟩:=hm.init
 have hext:=Frz.ext_refl w0.heap.size μ
 rw [H0] at h
 refine Aq Try.func13 rfl 16 [(0,.agg #[iv p0.Kind,.string p0.Name,iv p0.Time,.string p0.Sweep.Site.Name,iv p0.Sweep.Site.X,iv p0.Sweep.Site.Y,iv p0.Sweep.Site.Z,iv p0.Sweep.Site.Rose,iv p0.Sweep.Site.Gates,iv p0.Sweep.Site.Step,iv p0.Sweep.Site.Width,iv p0.Sweep.Tilt,iv p0.Sweep.Time,sv ad1 p0.Sweep.Rays cap2,iv p0.Field.Grid.X,iv p0.Field.Grid.Y,iv p0.Field.Grid.Size,iv p0.Field.Grid.Wide,iv p0.Field.Grid.High,sv ad4 p0.Field.Vals cap5,.string p0.Text])] rfl rfl kr fun a w hw hF=>?_
 replace hS:=hS.cast hw
 clear hw
 refine esr ?_
 refine SK.wi (H4 (t:=46) (fun b8=>[(1,pb b8)]) (.agg #[iv p0.Kind,.string p0.Name,iv p0.Time,.string p0.Sweep.Site.Name,iv p0.Sweep.Site.X,iv p0.Sweep.Site.Y,iv p0.Sweep.Site.Z,iv p0.Sweep.Site.Rose,iv p0.Sweep.Site.Gates,iv p0.Sweep.Site.Step,iv p0.Sweep.Site.Width,iv p0.Sweep.Tilt,iv p0.Sweep.Time,sv ad1 p0.Sweep.Rays cap2,iv p0.Field.Grid.X,iv p0.Field.Grid.Y,iv p0.Field.Grid.Size,iv p0.Field.Grid.Wide,iv p0.Field.Grid.High,sv ad4 p0.Field.Vals cap5,.string p0.Text]) #[iv p0.Kind,.string p0.Name,iv p0.Time,.string p0.Sweep.Site.Name,iv p0.Sweep.Site.X,iv p0.Sweep.Site.Y,iv p0.Sweep.Site.Z,iv p0.Sweep.Site.Rose,iv p0.Sweep.Site.Gates,iv p0.Sweep.Site.Step,iv p0.Sweep.Site.Width,iv p0.Sweep.Tilt,iv p0.Sweep.Time,sv ad1 p0.Sweep.Rays cap2,iv p0.Field.Grid.X,iv p0.Field.Grid.Y,iv p0.Field.Grid.Size,iv p0.Field.Grid.Wide,iv p0.Field.Grid.High,sv ad4 p0.Field.Vals cap5,.string p0.Text] hF hS kr ⟨kr⟩ kr (fun _=>⟨kr⟩) fun b8 w a hF hS=>?_)
 refine rn 2 3 [(1,pb b8)] hF fun a hF=>?_
 refine wfn rfl ?_
 refine esr ?_
 refine rno 1 [.run [] (Instr.loadAt 46 (pb b8)) (.agg #[iv p0.Kind,.string p0.Name,iv p0.Time,.string p0.Sweep.Site.Name,iv p0.Sweep.Site.X,iv p0.Sweep.Site.Y,iv p0.Sweep.Site.Z,iv p0.Sweep.Site.Rose,iv p0.Sweep.Site.Gates,iv p0.Sweep.Site.Step,iv p0.Sweep.Site.Width,iv p0.Sweep.Tilt,iv p0.Sweep.Time,sv ad1 p0.Sweep.Rays cap2,iv p0.Field.Grid.X,iv p0.Field.Grid.Y,iv p0.Field.Grid.Size,iv p0.Field.Grid.Wide,iv p0.Field.Grid.High,sv ad4 p0.Field.Vals cap5,.string p0.Text])] 1 [(7,.agg #[iv p0.Kind,.string p0.Name,iv p0.Time,.string p0.Sweep.Site.Name,iv p0.Sweep.Site.X,iv p0.Sweep.Site.Y,iv p0.Sweep.Site.Z,iv p0.Sweep.Site.Rose,iv p0.Sweep.Site.Gates,iv p0.Sweep.Site.Step,iv p0.Sweep.Site.Width,iv p0.Sweep.Tilt,iv p0.Sweep.Time,sv ad1 p0.Sweep.Rays cap2,iv p0.Field.Grid.X,iv p0.Field.Grid.Y,iv p0.Field.Grid.Size,iv p0.Field.Grid.Wide,iv p0.Field.Grid.High,sv ad4 p0.Field.Vals cap5,.string p0.Text])] hF (A0 (obN (us:=[iv p0.Kind,.string p0.Name,iv p0.Time,.string p0.Sweep.Site.Name,iv p0.Sweep.Site.X,iv p0.Sweep.Site.Y,iv p0.Sweep.Site.Z,iv p0.Sweep.Site.Rose,iv p0.Sweep.Site.Gates,iv p0.Sweep.Site.Step,iv p0.Sweep.Site.Width,iv p0.Sweep.Tilt,iv p0.Sweep.Time,sv ad1 p0.Sweep.Rays cap2,iv p0.Field.Grid.X,iv p0.Field.Grid.Y,iv p0.Field.Grid.Size,iv p0.Field.Grid.Wide,iv p0.Field.Grid.High,sv ad4 p0.Field.Vals cap5,.string p0.Text]) kr (fun _ hd=>((hS.at_ hd).blk (i:=0) rfl).cells rfl)) Aa) fun a hF=>?_
 replace h:=A4 h
 obtain ⟨a0,a8,h⟩:=h
 refine SK.wi (Bz (fun v9=>[(8,v9)]) hF kr ⟨kr⟩ (Qv F _ _ a8 μ w (hS.frz (i:=1) rfl hlow) hA6 hA7) (fun _=>⟨kr⟩) ?_)
 rintro v9 w a ⟨ν11,a2,a1,rfl,a7,hQ⟩ hF
 replace hext:=Frz.ext_trans hext (Frz.ext_mono a1 hS.ext.size)
 obtain ⟨hlow,hS⟩:=hS.frzMerge (i:=1) rfl hlow a1 hQ
 replace hA6:=hA6.mono Rp83.mono a1.1
 replace hA7:=hA7.mono a1.1
 refine rn 5 7 [(4,a2),(5,iv a0.2)] hF fun a hF=>?_
 refine wfn rfl ?_
 refine B0 ?_
 refine esr ?_
 refine rn 2 2 [(4,a2),(5,iv a0.2),(12,.bool (a0.2 != 0))] hF fun a hF=>?_
 refine wfn rfl ?_
 refine As hF rfl (fun hc=>?_) (fun hc=>?_)
 ·replace h:=Ao h hc
  refine esr ?_
  refine rn 3 3 [(2,.slice none 0 0),(3,iv a0.2)] hF fun a hF=>?_
  refine wfn rfl ?_
  refine wpIn_ret (Ab<|Ak [.tmp 2,.tmp 3] [.slice none 0 0,iv a0.2] hF rfl ⟨rfl,rfl,trivial⟩ ?_)
  have hr_:=Option.some.inj h
  subst hr_
  replace hS:=hS.nilarr 5 1 (fK .u8)
  exact ⟨_,rfl,_,_,rfl,St.pick [0] (by decide) hS⟩
 ·replace h:=An h hc
  refine wpIn_skip (A1 ?_)
  refine esr ?_
  refine rn 1 1 [(14,a2)] hF fun a hF=>?_
  replace h:=A4 h
  obtain ⟨a6,a9,h⟩:=h
  refine SK.wi (Bz (fun a5=>[(15,a5)]) hF kr ⟨kr⟩ (Rq F _ _ a9 (Bp w) w (A7 w) (a7.mono (FrzAt.le_mem (hS.frz (i:=1) rfl hlow)))) (fun _=>⟨kr⟩) ?_)
  rintro a5 w a ⟨a3,a4,rfl,hQ⟩ hF
  replace hS:=hS.madeL hQ
  refine rn 2 4 [(2,sv a3 a6 a4),(3,iv 0)] hF fun a hF=>?_
  refine wfn rfl ?_
  refine wpIn_ret (Ak [.tmp 2,.tmp 3] [sv a3 a6 a4,iv 0] hF rfl ⟨rfl,rfl,trivial⟩ ?_)
  have hr_:=Option.some.inj h
  subst hr_
  exact ⟨_,rfl,_,_,rfl,St.pick [0] (by decide) hS⟩
theorem Lf (F:Nat) (p0:volume_thing) (res:volume_Item) (h:Hl F p0=some res) (μ:Frz) (w0:World) (hm:FrzAt μ w0) {v:Value} (hv:volume_thing.R μ v p0):Zf Try.prog v "radome/volume.item" #[] (fun f gs=>Dd Try.prog f gs w0 (fun e w=>∃(ν_:Frz) (ad1:Option Addr) (cap2:Nat) (css3:List (List Value)) (ad4:Option Addr) (cap5:Nat),μ.ext w0.heap.size ν_∧e=(.agg #[iv res.Kind,.string res.Name,iv res.Time,.string res.Sweep.Site.Name,iv res.Sweep.Site.X,iv res.Sweep.Site.Y,iv res.Sweep.Site.Z,iv res.Sweep.Site.Rose,iv res.Sweep.Site.Gates,iv res.Sweep.Site.Step,iv res.Sweep.Site.Width,iv res.Sweep.Tilt,iv res.Sweep.Time,sv ad1 res.Sweep.Rays cap2,iv res.Field.Grid.X,iv res.Field.Grid.Y,iv res.Field.Grid.Size,iv res.Field.Grid.Wide,iv res.Field.Grid.High,sv ad4 res.Field.Vals cap5,.string res.Text])∧ArrQ ν_ 1 Rp83 ad1 cap2 css3 res.Sweep.Rays∧ArrM ν_ 2 api_Span.cells ad4 cap5 res.Field.Vals∧St w0 [fz w0 ν_] w)):=by
 cases p0 with
 | nil_=>cases h
 | ic112 y =>
  obtain ⟨cs,rfl,hr⟩:=hv
  obtain ⟨ad6,cap7,css8,rfl,hA9⟩:=hr
  exact ⟨86,#[.agg #[.string y.Sweep.Site.Name,iv y.Sweep.Site.X,iv y.Sweep.Site.Y,iv y.Sweep.Site.Z,iv y.Sweep.Site.Rose,iv y.Sweep.Site.Gates,iv y.Sweep.Site.Step,iv y.Sweep.Site.Width,iv y.Sweep.Tilt,iv y.Sweep.Time,sv ad6 y.Sweep.Rays cap7]],by kernel_rfl,Le y _ (Option.some.inj h) μ w0 hm hA9⟩
 | ic114 y =>
  obtain ⟨cs,rfl,hr⟩:=hv
  obtain ⟨a0,a1,rfl,a2⟩:=hr
  exact ⟨100,#[.agg #[.string y.key,iv y.time,iv y.Field.Grid.X,iv y.Field.Grid.Y,iv y.Field.Grid.Size,iv y.Field.Grid.Wide,iv y.Field.Grid.High,sv a0 y.Field.Vals a1]],by kernel_rfl,Lc y _ (Option.some.inj h) μ w0 hm a2⟩
 | ic116 y =>
  obtain ⟨cs,rfl,hr⟩:=hv
  obtain rfl:=hr
  exact ⟨108,#[.agg #[iv y.time,.string y.text]],by kernel_rfl,Lk y _ (Option.some.inj h) μ w0 hm⟩
theorem Gw (F:Nat) (p0:(List Int)) (res:((List volume_Item)×Int×Int)) (h:Cx F p0=some res) (μ:Frz) (w0:World) (hm:FrzAt μ w0) {ad1:Option Addr} {cap2:Nat} (hA3:ArrM μ 1 (fK .u8) ad1 cap2 p0):Dd Try.prog 10 #[sv ad1 p0 cap2] w0 (fun e w=>∃(ν_:Frz) (zad0:Option Addr) (zcap0:Nat) (zcss0:List (List Value)),μ.ext w0.heap.size ν_∧e=(.tuple #[sv zad0 res.1 zcap0,iv res.2.1,iv res.2.2])∧All2 (Rp46 ν_) zcss0 res.1∧St w0 [fz w0 ν_,arr 46 21 (fN 21) zad0 res.1.length zcap0 zcss0] w):=by
 obtain ⟨hlow,hS⟩:=hm.init
 have hext:=Frz.ext_refl w0.heap.size μ
 rw [Cx] at h
 refine Sc Try.func10 rfl 71 [(0,sv ad1 p0 cap2)] rfl rfl kr fun a w hw hF=>?_
 replace hS:=hS.cast hw
 clear hw
 replace hS:=hS.noMarks
 refine esr ?_
 refine SK.wi (H4 (t:=23) (fun b4=>[(1,pb b4)]) (sv ad1 p0 cap2) #[sv ad1 p0 cap2] hF hS kr ⟨kr⟩ kr (fun _=>⟨kr⟩) fun b4 w a hF hS=>?_)
 refine SK.wi (Bs (t:=24) (fun b5=>[(1,pb b4),(2,pb b5)]) #[.slice none 0 0] hF hS kr ⟨kr⟩ kr (fun _=>⟨kr⟩) fun b5 w a hF hS=>?_)
 refine SK.wi (Bs (t:=3) (fun b6=>[(1,pb b4),(2,pb b5),(3,pb b6)]) #[iv 0] hF hS kr ⟨kr⟩ kr (fun _=>⟨kr⟩) fun b6 w a hF hS=>?_)
 refine SK.wi (Bs (t:=28) (fun b7=>[(1,pb b4),(2,pb b5),(3,pb b6),(4,pb b7)]) #[iv 0] hF hS kr ⟨kr⟩ kr (fun _=>⟨kr⟩) fun b7 w a hF hS=>?_)
 refine wfn rfl ?_
 refine esr ?_
 refine rn 1 1 [(1,pb b4),(2,pb b5),(3,pb b6),(4,pb b7),(5,iv 4)] hF fun a hF=>?_
 refine wfn rfl ?_
 refine B0 ?_
 refine wpIn_block ?_
 refine esr ?_
 refine rno 4 [.run [] (Instr.loadAt 23 (pb b4)) (sv ad1 p0 cap2)] 4 [(1,pb b4),(2,pb b5),(3,pb b6),(4,pb b7),(5,iv 4),(10,.bool (decide ((ln p0)>16777216)))] hF (A0 (ob1 kr (fun _ hd=>(hS.at_ hd).cell (i:=3) (j:=0) rfl rfl)) Aa) fun a hF=>?_
 refine wfn rfl ?_
 refine As hF rfl (fun hc=>?_) (fun hc=>?_)
 ·replace h:=Ao h hc
  refine esr ?_
  refine SK.wi (Ap (t:=24) [(2,pb b5),(3,pb b6),(4,pb b7)] 2 0 (.slice none 0 0) #[.slice none 0 0] hF hS rfl kr ⟨kr⟩ kr kr kr kr ⟨kr⟩ fun w a hF hS=>?_)
  refine SK.wi (Ap (t:=3) [(2,pb b5),(3,pb b6),(4,pb b7)] 1 0 (iv 0) #[iv 0] hF hS rfl kr ⟨kr⟩ kr kr kr kr ⟨kr⟩ fun w a hF hS=>?_)
  refine SK.wi (Ap (t:=28) [(2,pb b5),(3,pb b6),(4,pb b7)] 0 0 (iv 8) #[iv 8] hF hS rfl kr ⟨kr⟩ kr kr kr kr ⟨kr⟩ fun w a hF hS=>?_)
  refine wfn rfl ?_
  refine wpIn_ret (Ar<|Ab<|N5 (H:=[blk b7 28 #[iv 8],blk b6 3 #[iv 0],blk b5 24 #[.slice none 0 0],blk b4 23 #[sv ad1 p0 cap2],fz w0 μ]) [.cell 2 24,.cell 3 3,.cell 4 28] [.slice none 0 0,iv 0,iv 8] hF (St.pick [4,0,1,2,3,5] (by decide) hS) rfl fun w hS=>⟨⟨⟨_,rfl,Bm kr (hS.cell (i:=2) (j:=0) rfl rfl)⟩,⟨_,rfl,Bm kr (hS.cell (i:=1) (j:=0) rfl rfl)⟩,⟨_,rfl,Bm kr (hS.cell (i:=0) (j:=0) rfl rfl)⟩,trivial⟩,?_⟩)
  have hr_:=Option.some.inj h
  subst hr_
  replace hS:=hS.nilarr 46 21 (fN 21)
  exact ⟨_,rfl,μ,_,_,_,hext,rfl,All2.nil,St.pick [5,0] (by decide) hS⟩
 ·replace h:=An h hc
  refine esr ?_
  refine rno 1 [.run [] (Instr.loadAt 23 (pb b4)) (sv ad1 p0 cap2)] 1 [(1,pb b4),(2,pb b5),(3,pb b6),(4,pb b7),(5,iv 4),(15,sv ad1 p0 cap2)] hF (A0 (ob1 kr (fun _ hd=>(hS.at_ hd).cell (i:=3) (j:=0) rfl rfl)) Aa) fun a hF=>?_
  refine SK.wi (G0 (e:=5) (sz:=1) (f:=(fK .u8)) (t:=23) (len:=4) (fun b8=>[(1,pb b4),(2,pb b5),(3,pb b6),(4,pb b7),(5,iv 4),(15,sv ad1 p0 cap2),(16,sb b8 4)]) #[(0,.int .u8 82),(1,.int .u8 86),(2,.int .u8 70),(3,.int .u8 49)] #[.int .u8 82,.int .u8 86,.int .u8 70,.int .u8 49] ([82,86,70,49]) hF hS kr ⟨kr⟩ kr (Cf .u8) rfl rfl kr (fun _=>⟨kr⟩) fun b8 w a hF hS=>?_)
  replace hS:St w0 [arrT 5 1 (fK .u8) (some ⟨b8,0,none⟩) ([82,86,70,49]).length 4 ([82,86,70,49]),blk b7 28 #[iv 0],blk b6 3 #[iv 0],blk b5 24 #[.slice none 0 0],blk b4 23 #[sv ad1 p0 cap2],E5 ([]),fz w0 μ] w:=St.toT hS
  refine SK.wi (Px (src:=23) [(1,pb b4),(2,pb b5),(3,pb b6),(4,pb b7),(5,iv 4),(15,sv ad1 p0 cap2),(17,sb b8 4)] 0 hF hS rfl (by decide) kr ⟨kr⟩ kr ⟨kr⟩ fun w a hF hS=>?_)
  replace h:=A4 h
  obtain ⟨y9,hy9,h⟩:=h
  replace h:=A4 h
  obtain ⟨aZ,aY,h⟩:=h
  refine rx 16 [.call [] 22 #[sv ad1 p0 cap2,sb b8 4] (.bool y9),.run [⟨20,false,(!y9)⟩] (Instr.loadAt 23 (pb b4)) (sv ad1 p0 cap2),.run [⟨25,true,(decide ((ln p0)>4))⟩,⟨20,false,(!y9)⟩] (Instr.loadAt 23 (pb b4)) (sv ad1 p0 cap2),.run [⟨25,true,(decide ((ln p0)>4))⟩,⟨20,false,(!y9)⟩] (Instr.indexAt 23 (sv ad1 p0 cap2) (iv 4)) (.pointer (some (Ag ad1 4 1))),.run [⟨25,true,(decide ((ln p0)>4))⟩,⟨20,false,(!y9)⟩] (Instr.loadAt 5 (.pointer (some (Ag ad1 4 1)))) (.int .u8 aZ)] 19 [(1,pb b4),(2,pb b5),(3,pb b6),(4,pb b7),(14,.bool (bif (!y9) then true else (bif (decide ((ln p0)>4)) then (aZ != 0) else false)))] hF (A0 (show Ob.ok _ Ext _ _ from fun hk w2 hd=>Pw F p0 ([82,86,70,49]) _ ((fun _=>hy9) hk) _ w2 (A7 w2) (hA3.mono (FrzAt.le_mem ((hS.later hd).frz (i:=6) rfl hlow))) (Arr.toM ((hS.later hd).arrT_ (i:=0) rfl))) (A0 (ob1 kr (fun _ hd=>(hS.later hd).cell (i:=4) (j:=0) rfl rfl)) (A0 (ob1 kr (fun _ hd=>(hS.later hd).cell (i:=4) (j:=0) rfl rfl)) (A0 (Bc (hA3 _ (hS.frz (i:=6) rfl hlow)) kr (fun hk=>E3 aY hk)) (A0 (Ey (i:=4) 0 (Cf .u8) (fun _ hd=>(hA3 _ ((hS.later hd).frz (i:=6) rfl hlow))) kr (fun hk=>E3 aY hk) rfl) Aa))))) fun a w hF hx=>?_
  replace hS:=hS.later hx
  refine wfn rfl ?_
  refine As hF rfl (fun hc=>?_) (fun hc=>?_)
  ·replace h:=Ao h hc
   refine esr ?_
   refine SK.wi (Ap (t:=24) [(2,pb b5),(3,pb b6),(4,pb b7)] 3 0 (.slice none 0 0) #[.slice none 0 0] hF hS rfl kr ⟨kr⟩ kr kr kr kr ⟨kr⟩ fun w a hF hS=>?_)
   refine SK.wi (Ap (t:=3) [(2,pb b5),(3,pb b6),(4,pb b7)] 2 0 (iv 0) #[iv 0] hF hS rfl kr ⟨kr⟩ kr kr kr kr ⟨kr⟩ fun w a hF hS=>?_)
   refine SK.wi (Ap (t:=28) [(2,pb b5),(3,pb b6),(4,pb b7)] 1 0 (iv 7) #[iv 7] hF hS rfl kr ⟨kr⟩ kr kr kr kr ⟨kr⟩ fun w a hF hS=>?_)
   refine wfn rfl ?_
   refine wpIn_ret (Ar<|Ab<|N5 (H:=[arrT 5 1 (fK .u8) (some ⟨b8,0,none⟩) ([82,86,70,49]).length 4 ([82,86,70,49]),blk b7 28 #[iv 7],blk b6 3 #[iv 0],blk b5 24 #[.slice none 0 0],blk b4 23 #[sv ad1 p0 cap2],fz w0 μ]) [.cell 2 24,.cell 3 3,.cell 4 28] [.slice none 0 0,iv 0,iv 7] hF (St.pick [5,0,1,2,3,4,6] (by decide) hS) rfl fun w hS=>⟨⟨⟨_,rfl,Bm kr (hS.cell (i:=3) (j:=0) rfl rfl)⟩,⟨_,rfl,Bm kr (hS.cell (i:=2) (j:=0) rfl rfl)⟩,⟨_,rfl,Bm kr (hS.cell (i:=1) (j:=0) rfl rfl)⟩,trivial⟩,?_⟩)
   have hr_:=Option.some.inj h
   subst hr_
   replace hS:=hS.nilarr 46 21 (fN 21)
   exact ⟨_,rfl,μ,_,_,_,hext,rfl,All2.nil,St.pick [6,0] (by decide) hS⟩
  ·replace h:=An h hc
   refine wpIn_skip (Ac<|A1<|?_)
   refine esr ?_
   refine rno 2 [.run [] (Instr.loadAt 23 (pb b4)) (sv ad1 p0 cap2)] 2 [(1,pb b4),(2,pb b5),(3,pb b6),(4,pb b7),(34,iv (ln p0))] hF (A0 (ob1 kr (fun _ hd=>(hS.at_ hd).cell (i:=4) (j:=0) rfl rfl)) Aa) fun a hF=>?_
   refine SK.wi (Ap (t:=3) [(1,pb b4),(2,pb b5),(3,pb b6),(4,pb b7)] 2 0 (iv (ln p0)) #[iv (ln p0)] hF hS rfl kr ⟨kr⟩ kr kr kr kr ⟨kr⟩ fun w a hF hS=>?_)
   refine wfn rfl ?_
   have a4:=Frz.le_refl μ
   refine Ei (fun a w=>∃(a3:(List volume_Item)) (aB:Int) (a9:Int) (ν207:Frz) (a5:Option Addr) (a6:Nat) (aK:List (List Value)) (Ds215:List Nat),Fr 71 (Mn Ds215) [(2,pb b5),(3,pb b6),(4,pb b7)] a∧St w0 [arr 46 21 (fN 21) a5 a3.length a6 aK,E5 Ds215,arrT 5 1 (fK .u8) (some ⟨b8,0,none⟩) ([82,86,70,49]).length 4 ([82,86,70,49]),blk b7 28 #[iv a9],blk b6 3 #[iv aB],blk b5 24 #[sv a5 a3 a6],blk b4 23 #[sv ad1 p0 cap2],fz w0 ν207] w∧(All2 (Rp46 ν207) aK a3)∧(μ.le ν207)∧(μ.ext w0.heap.size ν207)∧(Ba w0 ν207)∧Ez a3 aB a9=some res) ?_ ?_
   ·skip
    refine esr ?_
    refine rno 1 [.run [] (Instr.loadAt 23 (pb b4)) (sv ad1 p0 cap2)] 1 [(1,pb b4),(2,pb b5),(3,pb b6),(4,pb b7),(35,sv ad1 p0 cap2)] hF (A0 (ob1 kr (fun _ hd=>(hS.at_ hd).cell (i:=4) (j:=0) rfl rfl)) Aa) fun a hF=>?_
    refine SK.wi (Bz (fun b0=>[(1,pb b4),(2,pb b5),(3,pb b6),(4,pb b7),(36,b0)]) hF kr ⟨kr⟩ (Mv p0 _ rfl (Bp w) w (A7 w) (hA3.mono (FrzAt.le_mem (hS.frz (i:=6) rfl hlow)))) (fun _=>⟨kr⟩) ?_)
    rintro b0 w a ⟨aI,rfl,hQ⟩ hF
    replace hS:=hS.madeL hQ
    refine wfn rfl ?_
    refine wpIn_block ?_
    obtain ⟨ν221,aS,hlow,hS,bL⟩:=hS.freeze (i:=7) (j:=0) rfl rfl (by decide) hlow
    replace hA3:=hA3.mono aS.1
    replace a4:=Frz.le_trans a4 aS.1
    replace hext:=Frz.ext_trans hext aS
    have hB224:BlkM ν221 aI 23 #[sv ad1 p0 cap2]:=bL
    replace hS:=hS.nilarr 46 21 (fN 21)
    replace h:=A4 h
    obtain ⟨a1,hr410,h⟩:=h
    refine Yt (gf:=36) (lb:=#[pb aI]) (fun l=>#[.func (.yield l) #[] #[],pb aI]) (fun H1=>∃(ν_n:Frz) (g_n:(Option Addr×Nat×List (List Value)×Unit)),H1=[arr 46 21 (fN 21) g_n.1 a1.1.1.length g_n.2.1 g_n.2.2.1,arrT 5 1 (fK .u8) (some ⟨b8,0,none⟩) ([82,86,70,49]).length 4 ([82,86,70,49]),blk b7 28 #[iv a1.1.2.2.1],blk b6 3 #[iv a1.1.2.1],blk b5 24 #[.slice g_n.1 a1.1.1.length g_n.2.1],blk b4 23 #[sv ad1 p0 cap2],E5 ([]),fz w0 ν_n]∧ν221.ext w0.heap.size ν_n∧Ba w0 ν_n∧a1.2=true∧(All2 (Rp46 ν_n) g_n.2.2.1 a1.1.1)) (fun c H1=>∃(ν_n:Frz) (g_n:(Option Addr×Nat×List (List Value)×Unit)),H1=[arr 46 21 (fN 21) g_n.1 a1.1.1.length g_n.2.1 g_n.2.2.1,arrT 5 1 (fK .u8) (some ⟨b8,0,none⟩) ([82,86,70,49]).length 4 ([82,86,70,49]),blk b7 28 #[iv a1.1.2.2.1],blk b6 3 #[iv a1.1.2.1],blk b5 24 #[.slice g_n.1 a1.1.1.length g_n.2.1],blk b4 23 #[sv ad1 p0 cap2],E5 ([]),fz w0 ν_n]∧ν221.ext w0.heap.size ν_n∧Ba w0 ν_n∧a1.2=false∧c=Ht (a1.1.2.2.2)∧(All2 (Rp46 ν_n) g_n.2.2.1 a1.1.1)) (M:=[(1,pb b4),(2,pb b5),(3,pb b6),(4,pb b7),(36,.func (.func 36) #[] #[pb aI])]) (hF.sub kr) rfl hS (fun _=>rfl) (fun _=>by kernel_rfl) ?_ ?_ ?_
    ·replace hF:Fr 71 (Mn ([])) [(1,pb b4),(2,pb b5),(3,pb b6),(4,pb b7),(36,.func (.func 36) #[] #[pb aI])] a:=hF.sub kr
     intro fn_ l2_ D2_ rec2 w hrec2 hS
     replace hS:St w0 [Ef l2_ (rec2 .ready none),Ef D2_ (.deferred (some [])),arr 46 21 (fN 21) none ([]:List volume_Item).length 0 ([]:List (List Value)),arrT 5 1 (fK .u8) (some ⟨b8,0,none⟩) ([82,86,70,49]).length 4 ([82,86,70,49]),blk b7 28 #[iv 0],blk b6 3 #[iv (ln p0)],blk b5 24 #[.slice none 0 0],blk b4 23 #[sv ad1 p0 cap2],E5 ([]),fz w0 ν221] w:=hS
     refine Calls.mono (Ma F p0 (Gv F p0) (([]:List volume_Item),(ln p0),0,0) _ hr410 l2_ ν221 w0 w (fun (s_r:((List volume_Item)×Int×Int×Nat)) (b_r:Bool) (g_r:(Option Addr×Nat×List (List Value)×Unit))=>[Ef l2_ (rec2 (bif b_r then .ready else .done) (bif b_r then none else some (Ht (s_r.2.2.2)))),Ef D2_ (.deferred (some [])),arr 46 21 (fN 21) g_r.1 s_r.1.length g_r.2.1 g_r.2.2.1,arrT 5 1 (fK .u8) (some ⟨b8,0,none⟩) ([82,86,70,49]).length 4 ([82,86,70,49]),blk b7 28 #[iv s_r.2.2.1],blk b6 3 #[iv s_r.2.1],blk b5 24 #[.slice g_r.1 s_r.1.length g_r.2.1],blk b4 23 #[sv ad1 p0 cap2],E5 ([])]) (fun (s_r:((List volume_Item)×Int×Int×Nat)) (b_r:Bool) (g_r:(Option Addr×Nat×List (List Value)×Unit)) (ν_r:Frz)=>(All2 (Rp46 ν_r) g_r.2.2.1 s_r.1)∧True) (fun _ _ _ _ _ h hle=>⟨All2.mono Rp46.mono hle h.1,trivial⟩) ?_ (none,0,[],()) [] hlow ⟨All2.nil,trivial⟩ (St.pickT (A:=[Ef l2_ (rec2 .ready none),Ef D2_ (.deferred (some [])),arr 46 21 (fN 21) none ([]:List volume_Item).length 0 ([]:List (List Value)),arrT 5 1 (fK .u8) (some ⟨b8,0,none⟩) ([82,86,70,49]).length 4 ([82,86,70,49]),blk b7 28 #[iv 0],blk b6 3 #[iv (ln p0)],blk b5 24 #[.slice none 0 0],blk b4 23 #[sv ad1 p0 cap2],E5 ([]),fz w0 ν221]) (T:=[]) [9,0,1,2,3,4,5,6,7,8] (by decide) (by simpa using hS)) hB224 hA3) ?_
     ·rintro s_r x_ q_r h ν_r g_r G_r w a7 a8 hxv hlow hP aL hS
      obtain ⟨aA,-⟩:=hP
      replace hA3:=hA3.mono hxv.1
      replace hB224:=hB224.mono hxv.1
      replace a4:=Frz.le_trans a4 hxv.1
      have hxr:=Frz.ext_refl w0.heap.size ν_r
      replace hext:=Frz.ext_trans hext hxv
      replace hS:St w0 (Ef l2_ (rec2 .ready none)::Ef D2_ (.deferred (some []))::arr 46 21 (fN 21) g_r.1 s_r.1.length g_r.2.1 g_r.2.2.1::arrT 5 1 (fK .u8) (some ⟨b8,0,none⟩) ([82,86,70,49]).length 4 ([82,86,70,49])::blk b7 28 #[iv s_r.2.2.1]::blk b6 3 #[iv s_r.2.1]::blk b5 24 #[.slice g_r.1 s_r.1.length g_r.2.1]::blk b4 23 #[sv ad1 p0 cap2]::E5 ([])::fz w0 ν_r::G_r) w:=St.pickT (A:=[fz w0 ν_r,Ef l2_ (rec2 .ready none),Ef D2_ (.deferred (some [])),arr 46 21 (fN 21) g_r.1 s_r.1.length g_r.2.1 g_r.2.2.1,arrT 5 1 (fK .u8) (some ⟨b8,0,none⟩) ([82,86,70,49]).length 4 ([82,86,70,49]),blk b7 28 #[iv s_r.2.2.1],blk b6 3 #[iv s_r.2.1],blk b5 24 #[.slice g_r.1 s_r.1.length g_r.2.1],blk b4 23 #[sv ad1 p0 cap2],E5 ([])]) (T:=G_r) [1,2,3,4,5,6,7,8,9,0] (by decide) hS
      rw [Gv] at h
      refine Yw (rec:=rec2) hrec2 [(37,iv x_.1),(38,sv a7 x_.2 a8)] [(1,pb b4),(2,pb b5),(3,pb b6),(4,pb b7),(37,iv x_.1),(38,sv a7 x_.2 a8)] hF (by simp) rfl rfl kr hS ?_
      intro a hF
      refine esr ?_
      refine rn 1 1 [(1,pb b4),(2,pb b5),(3,pb b6),(4,pb b7),(6,iv x_.1),(38,sv a7 x_.2 a8)] hF fun a hF=>?_
      refine wfn rfl ?_
      refine WI.region ?_
      refine rn 1 1 [(1,pb b4),(2,pb b5),(3,pb b6),(4,pb b7),(6,iv x_.1),(7,sv a7 x_.2 a8)] hF fun a hF=>?_
      refine wfn rfl ?_
      refine ⟨_,hS,fun w hS=>?_⟩
      refine wpIn_block ?_
      refine esr ?_
      refine rn 1 1 [(1,pb b4),(2,pb b5),(3,pb b6),(4,pb b7),(6,iv x_.1),(7,sv a7 x_.2 a8),(40,sv a7 x_.2 a8)] hF fun a hF=>?_
      replace h:=A4 h
      obtain ⟨aJ,bI,h⟩:=h
      refine SK.wi (Bz (fun b1=>[(1,pb b4),(2,pb b5),(3,pb b6),(4,pb b7),(6,iv x_.1),(7,sv a7 x_.2 a8),(41,b1)]) hF kr ⟨kr⟩ (Mw F _ _ bI ν_r w (hS.frz (i:=9) rfl hlow) aL) (fun _=>⟨kr⟩) ?_)
      rintro b1 w a ⟨ν360,aT,aH,rfl,aR,hQ⟩ hF
      replace hext:=Frz.ext_trans hext (Frz.ext_mono aH hS.ext.size)
      replace hxr:=Frz.ext_trans hxr (Frz.ext_mono aH hS.ext.size)
      obtain ⟨hlow,hS⟩:=hS.frzMerge (i:=9) rfl hlow aH hQ
      replace hA3:=hA3.mono aH.1
      replace hB224:=hB224.mono aH.1
      replace aA:=All2.mono Rp46.mono aH.1 aA
      replace aL:=aL.mono aH.1
      replace a4:=Frz.le_trans a4 aH.1
      refine rn 5 7 [(1,pb b4),(2,pb b5),(3,pb b6),(4,pb b7),(6,iv x_.1),(7,sv a7 x_.2 a8),(8,aT),(9,iv aJ.2)] hF fun a hF=>?_
      refine wfn rfl ?_
      refine B0 ?_
      refine esr ?_
      refine rn 2 2 [(1,pb b4),(2,pb b5),(3,pb b6),(4,pb b7),(6,iv x_.1),(7,sv a7 x_.2 a8),(8,aT),(9,iv aJ.2),(45,.bool (aJ.2 != 0))] hF fun a hF=>?_
      refine wfn rfl ?_
      refine As hF rfl (fun hc=>?_) (fun hc=>?_)
      ·replace h:=Ao h hc
       refine esr ?_
       refine rn 2 2 [(1,pb b4),(3,pb b6),(4,pb b7),(6,iv x_.1),(7,sv a7 x_.2 a8),(46,iv x_.1),(47,iv aJ.2)] hF fun a hF=>?_
       refine SK.wi (Ap (t:=3) [(1,pb b4),(4,pb b7),(6,iv x_.1),(7,sv a7 x_.2 a8),(47,iv aJ.2)] 5 0 (iv x_.1) #[iv x_.1] hF hS rfl kr ⟨kr⟩ kr kr kr kr ⟨kr⟩ fun w a hF hS=>?_)
       refine SK.wi (Ap (t:=28) [(1,pb b4),(4,pb b7),(6,iv x_.1),(7,sv a7 x_.2 a8)] 4 0 (iv aJ.2) #[iv aJ.2] hF hS rfl kr ⟨kr⟩ kr kr kr kr ⟨kr⟩ fun w a hF hS=>?_)
       refine wfn rfl ?_
       refine B0 ?_
       refine esr ?_
       replace h:=A4 h
       obtain ⟨b3,bG,h⟩:=h
       replace h:=A4 h
       obtain ⟨aU,bH,h⟩:=h
       replace h:=A4 h
       obtain ⟨b9,bJ,h⟩:=h
       refine rx 12 [.run [] (binOp .add 3 (iv x_.1) (iv 1)) (iv b3),.run [] (binOp .add 3 (iv b3) (iv (ln x_.2))) (iv aU),.run [] (Instr.loadAt 23 (pb b4)) (sv ad1 p0 cap2),.call [⟨56,true,(aU==(ln p0))⟩] 25 #[sv a7 x_.2 a8] (.bool b9)] 12 [(4,pb b7),(59,.bool (bif (aU==(ln p0)) then b9 else false))] hF (A0 (Aw (fun _=>bG)) (A0 (Aw (fun _=>bH)) (A0 (ob1 kr (fun _ hd=>(hS.later hd).cell (i:=7) (j:=0) rfl rfl)) (A0 (show Ob.ok _ Ext _ _ from fun hk w2 hd=>T6 F x_.2 _ ((fun hk=>E3 bJ hk) hk) _ w2 (A7 w2) (aL.mono (FrzAt.le_mem ((hS.later hd).frz (i:=9) rfl hlow)))) Aa)))) fun a w hF hx=>?_
       replace hS:=hS.later hx
       refine wfn rfl ?_
       refine As hF rfl (fun hc=>?_) (fun hc=>?_)
       ·replace h:=Ao h hc
        refine WI.region ?_
        refine SK.wi (Ap (t:=28) [] 4 0 (iv 16) #[iv 16] hF hS rfl kr ⟨kr⟩ kr kr kr kr ⟨kr⟩ fun w a hF hS=>?_)
        refine wfn rfl ?_
        refine wpIn_exit (Ad<|Tn rfl<|?_)
        have hr_:=Option.some.inj h
        subst hr_
        refine ⟨_,hS,fun w hS=>⟨rfl,ν360,(g_r.1,g_r.2.1,g_r.2.2.1,()),hxr,hlow,⟨aA,trivial⟩,hS.s9⟩⟩
       ·replace h:=An h hc
        refine wpIn_skip (A1 ?_)
        refine wpIn_exit (Ad<|Tn rfl<|?_)
        have hr_:=Option.some.inj h
        subst hr_
        refine ⟨_,hS,fun w hS=>⟨rfl,ν360,(g_r.1,g_r.2.1,g_r.2.2.1,()),hxr,hlow,⟨aA,trivial⟩,hS.s9⟩⟩
      ·replace h:=An h hc
       refine wpIn_skip (A1 ?_)
       replace h:=A4 h
       obtain ⟨a0,bK,h⟩:=h
       refine Cz 4 [2,3] _ (D:=fun w=>St w0 [Ef l2_ (rec2 .busy none),Ef D2_ (.deferred (some [])),arr 46 21 (fN 21) g_r.1 s_r.1.length g_r.2.1 g_r.2.2.1,arrT 5 1 (fK .u8) (some ⟨b8,0,none⟩) ([82,86,70,49]).length 4 ([82,86,70,49]),blk b7 28 #[iv s_r.2.2.1],blk b6 3 #[iv s_r.2.1],blk b5 24 #[.slice g_r.1 s_r.1.length g_r.2.1],blk b4 23 #[sv ad1 p0 cap2],E5 ([])] w∧FrzAt ν360 w) kr kr hF.size (fun w hx=>?_) (fun _ _ h=>h)
       replace hS:=hS.later hx
       refine ⟨⟨St.pick [0,1,2,3,4,5,6,7,8] (by decide) hS,hS.frz (i:=9) rfl hlow⟩,?_⟩
       have aO:=Frz.le_refl ν360
       refine WT.s [0,1] [2] kr kr ?_
       refine Ek (rest:=[]) (obs:=[.run [] (Instr.loadAt 24 (pb b5)) (.slice g_r.1 s_r.1.length g_r.2.1)]) [0,1] [(2,pb b5),(60,.slice g_r.1 s_r.1.length g_r.2.1),(61,aT)] hF kr kr (A0 (ob1 kr (fun _ hd=>hd.1.cell (i:=6) (j:=0) rfl rfl)) Aa) ⟨kr⟩ fun a hF=>?_
       refine WRun.fin ?_
       refine all_cons ?_ (Ay)
       refine W5 (fun b2=>[(2,pb b5),(60,.slice g_r.1 s_r.1.length g_r.2.1),(62,b2)]) hF kr ⟨kr⟩ (Lf F _ _ bK ν360 w (hS.frz (i:=9) rfl hlow) aR) (fun _=>⟨kr⟩) ?_
       rintro b2 w a ⟨ν394,aD,aF,bA,aE,aG,aC,rfl,bB,bC,hQ⟩ hF
       replace hext:=Frz.ext_trans hext (Frz.ext_mono aC hS.ext.size)
       replace hxr:=Frz.ext_trans hxr (Frz.ext_mono aC hS.ext.size)
       obtain ⟨hlow,hS⟩:=hS.frzMerge (i:=9) rfl hlow aC hQ
       replace hA3:=hA3.mono aC.1
       replace hB224:=hB224.mono aC.1
       replace aA:=All2.mono Rp46.mono aC.1 aA
       replace aL:=aL.mono aC.1
       replace aR:=aR.mono aC.1
       replace a4:=Frz.le_trans a4 aC.1
       replace aO:=Frz.le_trans aO aC.1
       refine ⟨⟨St.pick [0,1,2,3,4,5,6,7,8] (by decide) hS,(hS.frz (i:=9) rfl hlow).low aO⟩,?_⟩
       refine WT.s [] [3] kr kr ?_
       refine WRun.fin ?_
       refine all_cons ?_ (Ay)
       have aX:All2 (Rp46 ν394) ([[iv a0.Kind,.string a0.Name,iv a0.Time,.string a0.Sweep.Site.Name,iv a0.Sweep.Site.X,iv a0.Sweep.Site.Y,iv a0.Sweep.Site.Z,iv a0.Sweep.Site.Rose,iv a0.Sweep.Site.Gates,iv a0.Sweep.Site.Step,iv a0.Sweep.Site.Width,iv a0.Sweep.Tilt,iv a0.Sweep.Time,sv aD a0.Sweep.Rays aF,iv a0.Field.Grid.X,iv a0.Field.Grid.Y,iv a0.Field.Grid.Size,iv a0.Field.Grid.Wide,iv a0.Field.Grid.High,sv aE a0.Field.Vals aG,.string a0.Text]]:List (List Value)) [a0]:=(All2.cons ⟨aD,aF,bA,aE,aG,rfl,bB,bC⟩ All2.nil)
       refine Sk (e:=46) (sz:=21) (f:=fN 21) (t:=24) (len:=1) (fun aV=>[(2,pb b5),(60,.slice g_r.1 s_r.1.length g_r.2.1),(63,sb aV 1)]) #[(0,.agg #[iv a0.Kind,.string a0.Name,iv a0.Time,.string a0.Sweep.Site.Name,iv a0.Sweep.Site.X,iv a0.Sweep.Site.Y,iv a0.Sweep.Site.Z,iv a0.Sweep.Site.Rose,iv a0.Sweep.Site.Gates,iv a0.Sweep.Site.Step,iv a0.Sweep.Site.Width,iv a0.Sweep.Tilt,iv a0.Sweep.Time,sv aD a0.Sweep.Rays aF,iv a0.Field.Grid.X,iv a0.Field.Grid.Y,iv a0.Field.Grid.Size,iv a0.Field.Grid.Wide,iv a0.Field.Grid.High,sv aE a0.Field.Vals aG,.string a0.Text])] #[iv a0.Kind,.string a0.Name,iv a0.Time,.string a0.Sweep.Site.Name,iv a0.Sweep.Site.X,iv a0.Sweep.Site.Y,iv a0.Sweep.Site.Z,iv a0.Sweep.Site.Rose,iv a0.Sweep.Site.Gates,iv a0.Sweep.Site.Step,iv a0.Sweep.Site.Width,iv a0.Sweep.Tilt,iv a0.Sweep.Time,sv aD a0.Sweep.Rays aF,iv a0.Field.Grid.X,iv a0.Field.Grid.Y,iv a0.Field.Grid.Size,iv a0.Field.Grid.Wide,iv a0.Field.Grid.High,sv aE a0.Field.Vals aG,.string a0.Text] ([[iv a0.Kind,.string a0.Name,iv a0.Time,.string a0.Sweep.Site.Name,iv a0.Sweep.Site.X,iv a0.Sweep.Site.Y,iv a0.Sweep.Site.Z,iv a0.Sweep.Site.Rose,iv a0.Sweep.Site.Gates,iv a0.Sweep.Site.Step,iv a0.Sweep.Site.Width,iv a0.Sweep.Tilt,iv a0.Sweep.Time,sv aD a0.Sweep.Rays aF,iv a0.Field.Grid.X,iv a0.Field.Grid.Y,iv a0.Field.Grid.Size,iv a0.Field.Grid.Wide,iv a0.Field.Grid.High,sv aE a0.Field.Vals aG,.string a0.Text]]:List (List Value)) ([a0]) hF hS kr ⟨kr⟩ kr (Dp 21) rfl rfl rfl kr (fun _=>⟨kr⟩) fun aV w a hF hS=>⟨⟨St.pick [1,2,3,4,5,6,7,8,9] (by decide) hS,(hS.frz (i:=10) rfl hlow).low aO⟩,?_⟩
       refine WT.z [] kr ?_
       refine WRun.fin ?_
       replace h:=A4 h
       obtain ⟨aQ,aW,h⟩:=h
       have bF:All2 (Rp46 ν394) (g_r.2.2.1++([[iv a0.Kind,.string a0.Name,iv a0.Time,.string a0.Sweep.Site.Name,iv a0.Sweep.Site.X,iv a0.Sweep.Site.Y,iv a0.Sweep.Site.Z,iv a0.Sweep.Site.Rose,iv a0.Sweep.Site.Gates,iv a0.Sweep.Site.Step,iv a0.Sweep.Site.Width,iv a0.Sweep.Tilt,iv a0.Sweep.Time,sv aD a0.Sweep.Rays aF,iv a0.Field.Grid.X,iv a0.Field.Grid.Y,iv a0.Field.Grid.Size,iv a0.Field.Grid.Wide,iv a0.Field.Grid.High,sv aE a0.Field.Vals aG,.string a0.Text]]:List (List Value))) aQ:=by rw [(J7 aW).1];exact All2.app aA aX
       refine SK.wi (S5 (t:=24) (ty:=24) (bytes:=224) (c:=g_r.2.2.1) (c':=([[iv a0.Kind,.string a0.Name,iv a0.Time,.string a0.Sweep.Site.Name,iv a0.Sweep.Site.X,iv a0.Sweep.Site.Y,iv a0.Sweep.Site.Z,iv a0.Sweep.Site.Rose,iv a0.Sweep.Site.Gates,iv a0.Sweep.Site.Step,iv a0.Sweep.Site.Width,iv a0.Sweep.Tilt,iv a0.Sweep.Time,sv aD a0.Sweep.Rays aF,iv a0.Field.Grid.X,iv a0.Field.Grid.Y,iv a0.Field.Grid.Size,iv a0.Field.Grid.Wide,iv a0.Field.Grid.High,sv aE a0.Field.Vals aG,.string a0.Text]]:List (List Value))) (l:=s_r.1) (l':=([a0])) (fun aM aN=>[(2,pb b5),(64,sv aM aQ aN)]) 3 hF hS rfl kr ⟨kr⟩ kr (hS.arr (i:=0) rfl) (ArrQ.one aX Rp46.one) aW (fun _ _=>⟨kr⟩) fun aM aN w a hF hS=>?_)
       refine SK.wi (Ap (t:=24) [] 7 0 (sv aM aQ aN) #[sv aM aQ aN] hF hS rfl kr ⟨kr⟩ kr kr kr kr ⟨kr⟩ fun w a hF hS=>?_)
       refine WI.fin rfl (Ac ?_)
       have hr_:=Option.some.inj h
       subst hr_
       refine ⟨_,hS.s1,fun w hS=>⟨rfl,ν394,(aM,aN,(g_r.2.2.1++([[iv a0.Kind,.string a0.Name,iv a0.Time,.string a0.Sweep.Site.Name,iv a0.Sweep.Site.X,iv a0.Sweep.Site.Y,iv a0.Sweep.Site.Z,iv a0.Sweep.Site.Rose,iv a0.Sweep.Site.Gates,iv a0.Sweep.Site.Step,iv a0.Sweep.Site.Width,iv a0.Sweep.Tilt,iv a0.Sweep.Time,sv aD a0.Sweep.Rays aF,iv a0.Field.Grid.X,iv a0.Field.Grid.Y,iv a0.Field.Grid.Size,iv a0.Field.Grid.Wide,iv a0.Field.Grid.High,sv aE a0.Field.Vals aG,.string a0.Text]]:List (List Value))),()),hxr,hlow,⟨bF,trivial⟩,hS.d1.s9⟩⟩
     ·rintro e w2 ⟨ν_n,g_n,hxn,hlown,hPn,rfl,hSn⟩
      refine ⟨_,rfl,?_⟩
      obtain ⟨nhq351,-⟩:=hPn
      rcases Bool.eq_false_or_eq_true a1.2 with hb_|hb_
      ·rw [hb_] at hSn
       refine .inl ⟨_,⟨ν_n,g_n,rfl,hxn,hlown,hb_,nhq351⟩,(by have:=St.pickT (A:=[fz w0 ν_n,Ef l2_ (rec2 .ready none),Ef D2_ (.deferred (some [])),arr 46 21 (fN 21) g_n.1 a1.1.1.length g_n.2.1 g_n.2.2.1,arrT 5 1 (fK .u8) (some ⟨b8,0,none⟩) ([82,86,70,49]).length 4 ([82,86,70,49]),blk b7 28 #[iv a1.1.2.2.1],blk b6 3 #[iv a1.1.2.1],blk b5 24 #[.slice g_n.1 a1.1.1.length g_n.2.1],blk b4 23 #[sv ad1 p0 cap2],E5 ([])]) (T:=[]) [1,2,3,4,5,6,7,8,9,0] (by decide) hSn;simpa using this)⟩
      ·rw [hb_] at hSn
       refine .inr ⟨_,_,⟨ν_n,g_n,rfl,hxn,hlown,hb_,rfl,nhq351⟩,(by have:=St.pickT (A:=[fz w0 ν_n,Ef l2_ (rec2 .done (some (Ht (a1.1.2.2.2)))),Ef D2_ (.deferred (some [])),arr 46 21 (fN 21) g_n.1 a1.1.1.length g_n.2.1 g_n.2.2.1,arrT 5 1 (fK .u8) (some ⟨b8,0,none⟩) ([82,86,70,49]).length 4 ([82,86,70,49]),blk b7 28 #[iv a1.1.2.2.1],blk b6 3 #[iv a1.1.2.1],blk b5 24 #[.slice g_n.1 a1.1.1.length g_n.2.1],blk b4 23 #[sv ad1 p0 cap2],E5 ([])]) (T:=[]) [1,2,3,4,5,6,7,8,9,0] (by decide) hSn;simpa using this)⟩
    ·rintro D413 a w _ ⟨ν412,a2,rfl,hxn,hlow,hb_,aA⟩ hF hS
     replace hA3:=hA3.mono hxn.1
     replace hB224:=hB224.mono hxn.1
     replace a4:=Frz.le_trans a4 hxn.1
     replace hext:=Frz.ext_trans hext hxn
     replace hS:St w0 [Ef D413 (.deferred (some [])),arr 46 21 (fN 21) a2.1 a1.1.1.length a2.2.1 a2.2.2.1,arrT 5 1 (fK .u8) (some ⟨b8,0,none⟩) ([82,86,70,49]).length 4 ([82,86,70,49]),blk b7 28 #[iv a1.1.2.2.1],blk b6 3 #[iv a1.1.2.1],blk b5 24 #[.slice a2.1 a1.1.1.length a2.2.1],blk b4 23 #[sv ad1 p0 cap2],E5 ([]),fz w0 ν412] w:=hS
     replace hS:=St.mark (St.pick [0,7,1,2,3,4,5,6,8] (by decide) hS)
     replace hS:St w0 [E5 (D413::[]),arr 46 21 (fN 21) a2.1 a1.1.1.length a2.2.1 a2.2.2.1,arrT 5 1 (fK .u8) (some ⟨b8,0,none⟩) ([82,86,70,49]).length 4 ([82,86,70,49]),blk b7 28 #[iv a1.1.2.2.1],blk b6 3 #[iv a1.1.2.1],blk b5 24 #[.slice a2.1 a1.1.1.length a2.2.1],blk b4 23 #[sv ad1 p0 cap2],fz w0 ν412] w:=hS
     replace hF:Fr 71 (Mn (D413::[])) [(1,pb b4),(2,pb b5),(3,pb b6),(4,pb b7),(36,.func (.func 36) #[] #[pb aI])] a:=hF
     replace h:=Ao h hb_
     refine Ac<|A1<|?_
     replace hF:Fr 71 (Mn (D413::[])) [(2,pb b5),(3,pb b6),(4,pb b7)] a:=hF.sub kr
     exact ⟨a1.1.1,a1.1.2.1,a1.1.2.2.1,ν412,a2.1,a2.2.1,a2.2.2.1,(D413::[]),hF.sub kr,St.pick [1,0,2,3,4,5,6,7] (by decide) hS,aA,a4,hext,hlow,h⟩
    rintro D413 _ a w _ ⟨ν412,a2,rfl,hxn,hlow,hb_,rfl,aA⟩ hF hS
    replace hA3:=hA3.mono hxn.1
    replace hB224:=hB224.mono hxn.1
    replace a4:=Frz.le_trans a4 hxn.1
    replace hext:=Frz.ext_trans hext hxn
    replace hS:St w0 [Ef D413 (.deferred (some [])),arr 46 21 (fN 21) a2.1 a1.1.1.length a2.2.1 a2.2.2.1,arrT 5 1 (fK .u8) (some ⟨b8,0,none⟩) ([82,86,70,49]).length 4 ([82,86,70,49]),blk b7 28 #[iv a1.1.2.2.1],blk b6 3 #[iv a1.1.2.1],blk b5 24 #[.slice a2.1 a1.1.1.length a2.2.1],blk b4 23 #[sv ad1 p0 cap2],E5 ([]),fz w0 ν412] w:=hS
    replace hS:=St.mark (St.pick [0,7,1,2,3,4,5,6,8] (by decide) hS)
    replace hS:St w0 [E5 (D413::[]),arr 46 21 (fN 21) a2.1 a1.1.1.length a2.2.1 a2.2.2.1,arrT 5 1 (fK .u8) (some ⟨b8,0,none⟩) ([82,86,70,49]).length 4 ([82,86,70,49]),blk b7 28 #[iv a1.1.2.2.1],blk b6 3 #[iv a1.1.2.1],blk b5 24 #[.slice a2.1 a1.1.1.length a2.2.1],blk b4 23 #[sv ad1 p0 cap2],fz w0 ν412] w:=hS
    replace hF:Fr 71 (Mn (D413::[])) [(1,pb b4),(2,pb b5),(3,pb b6),(4,pb b7),(36,.func (.func 36) #[] #[pb aI])] a:=hF
    replace h:=An h hb_
    rcases Bool.eq_false_or_eq_true (a1.1.2.2.2==3) with aP|aP
    ·replace h:=Ao h aP
     rw [show Ht (a1.1.2.2.2)=Code.exit 1 from by rw [Ht];simp only [aP];rfl]
     refine wpIn_exit (Bb<|A1 ?_)
     exact ⟨a1.1.1,a1.1.2.1,a1.1.2.2.1,ν412,a2.1,a2.2.1,a2.2.2.1,(D413::[]),hF.sub kr,St.pick [1,0,2,3,4,5,6,7] (by decide) hS,aA,a4,hext,hlow,h⟩
    ·replace h:=An h aP
     cases h
   clear a4
   rintro a w ⟨a3,aB,a9,ν207,a5,a6,aK,Ds215,hF,hS,bE,bD,hext,hlow,h⟩
   replace hA3:=hA3.mono bD
   rw [Ez] at h
   refine B0 ?_
   refine esr ?_
   refine rno 3 [.run [] (Instr.loadAt 24 (pb b5)) (sv a5 a3 a6)] 3 [(2,pb b5),(3,pb b6),(4,pb b7),(67,.bool (decide ((ln a3)>1000)))] hF (A0 (ob1 kr (fun _ hd=>(hS.at_ hd).cell (i:=5) (j:=0) rfl rfl)) Aa) fun a hF=>?_
   refine wfn rfl ?_
   refine As hF rfl (fun hc=>?_) (fun hc=>?_)
   ·replace h:=Ao h hc
    refine esr ?_
    refine SK.wi (Ap (t:=24) [(2,pb b5),(3,pb b6),(4,pb b7)] 5 0 (.slice none 0 0) #[.slice none 0 0] hF hS rfl kr ⟨kr⟩ kr kr kr kr ⟨kr⟩ fun w a hF hS=>?_)
    refine SK.wi (Ap (t:=3) [(2,pb b5),(3,pb b6),(4,pb b7)] 4 0 (iv 0) #[iv 0] hF hS rfl kr ⟨kr⟩ kr kr kr kr ⟨kr⟩ fun w a hF hS=>?_)
    refine SK.wi (Ap (t:=28) [(2,pb b5),(3,pb b6),(4,pb b7)] 3 0 (iv 9) #[iv 9] hF hS rfl kr ⟨kr⟩ kr kr kr kr ⟨kr⟩ fun w a hF hS=>?_)
    refine wfn rfl ?_
    refine wpIn_ret (Ab<|N5 (H:=[arr 46 21 (fN 21) a5 a3.length a6 aK,arrT 5 1 (fK .u8) (some ⟨b8,0,none⟩) ([82,86,70,49]).length 4 ([82,86,70,49]),blk b7 28 #[iv 9],blk b6 3 #[iv 0],blk b5 24 #[.slice none 0 0],blk b4 23 #[sv ad1 p0 cap2],fz w0 ν207]) [.cell 2 24,.cell 3 3,.cell 4 28] [.slice none 0 0,iv 0,iv 9] hF (St.pick [1,0,2,3,4,5,6,7] (by decide) hS) rfl fun w hS=>⟨⟨⟨_,rfl,Bm kr (hS.cell (i:=4) (j:=0) rfl rfl)⟩,⟨_,rfl,Bm kr (hS.cell (i:=3) (j:=0) rfl rfl)⟩,⟨_,rfl,Bm kr (hS.cell (i:=2) (j:=0) rfl rfl)⟩,trivial⟩,?_⟩)
    have hr_:=Option.some.inj h
    subst hr_
    replace hS:=hS.nilarr 46 21 (fN 21)
    exact ⟨_,rfl,ν207,_,_,_,hext,rfl,All2.nil,St.pick [7,0] (by decide) hS⟩
   ·replace h:=An h hc
    refine wpIn_skip (A1 ?_)
    refine B0 ?_
    refine Cz 5 [3,4] _ (D:=fun w=>St w0 [arr 46 21 (fN 21) a5 a3.length a6 aK,E5 Ds215,arrT 5 1 (fK .u8) (some ⟨b8,0,none⟩) ([82,86,70,49]).length 4 ([82,86,70,49]),blk b7 28 #[iv a9],blk b6 3 #[iv aB],blk b5 24 #[sv a5 a3 a6],blk b4 23 #[sv ad1 p0 cap2]] w∧FrzAt ν207 w) kr kr hF.size (fun w hx=>?_) (fun _ _ h=>h)
    replace hS:=hS.later hx
    refine ⟨⟨St.pick [0,1,2,3,4,5,6] (by decide) hS,hS.frz (i:=7) rfl hlow⟩,?_⟩
    have bM:=Frz.le_refl ν207
    refine WT.s [0,1,2] [3] kr kr ?_
    refine Ek (rest:=[]) (obs:=[.run [] (Instr.loadAt 24 (pb b5)) (sv a5 a3 a6),.run [] (Instr.loadAt 3 (pb b6)) (iv aB),.run [] (Instr.loadAt 28 (pb b7)) (iv a9)]) [0,1,2] [(2,pb b5),(3,pb b6),(4,pb b7),(68,sv a5 a3 a6),(69,iv aB),(70,iv a9)] hF kr kr (A0 (ob1 kr (fun _ hd=>hd.1.cell (i:=5) (j:=0) rfl rfl)) (A0 (ob1 kr (fun _ hd=>hd.1.cell (i:=4) (j:=0) rfl rfl)) (A0 (ob1 kr (fun _ hd=>hd.1.cell (i:=3) (j:=0) rfl rfl)) Aa))) ⟨kr⟩ fun a hF=>?_
    refine WRun.fin ?_
    refine all_cons ?_ (Ay)
    refine Ap (t:=24) [(2,pb b5),(3,pb b6),(4,pb b7),(69,iv aB),(70,iv a9)] 5 0 (sv a5 a3 a6) #[sv a5 a3 a6] hF hS rfl kr ⟨kr⟩ kr kr kr kr ⟨kr⟩ fun w a hF hS=>⟨⟨St.pick [0,1,2,3,4,5,6] (by decide) hS,(hS.frz (i:=7) rfl hlow)⟩,?_⟩
    refine WT.s [] [4] kr kr ?_
    refine WRun.fin ?_
    refine all_cons ?_ (Ay)
    refine Ap (t:=3) [(2,pb b5),(3,pb b6),(4,pb b7),(70,iv a9)] 4 0 (iv aB) #[iv aB] hF hS rfl kr ⟨kr⟩ kr kr kr kr ⟨kr⟩ fun w a hF hS=>⟨⟨St.pick [0,1,2,3,4,5,6] (by decide) hS,(hS.frz (i:=7) rfl hlow)⟩,?_⟩
    refine WT.z [] kr ?_
    refine WRun.fin ?_
    refine SK.wi (Ap (t:=28) [(2,pb b5),(3,pb b6),(4,pb b7)] 3 0 (iv a9) #[iv a9] hF hS rfl kr ⟨kr⟩ kr kr kr kr ⟨kr⟩ fun w a hF hS=>?_)
    refine wfn rfl ?_
    refine wpIn_ret (N5 (H:=[arr 46 21 (fN 21) a5 a3.length a6 aK,arrT 5 1 (fK .u8) (some ⟨b8,0,none⟩) ([82,86,70,49]).length 4 ([82,86,70,49]),blk b7 28 #[iv a9],blk b6 3 #[iv aB],blk b5 24 #[sv a5 a3 a6],blk b4 23 #[sv ad1 p0 cap2],fz w0 ν207]) [.cell 2 24,.cell 3 3,.cell 4 28] [sv a5 a3 a6,iv aB,iv a9] hF (St.pick [1,0,2,3,4,5,6,7] (by decide) hS) rfl fun w hS=>⟨⟨⟨_,rfl,Bm kr (hS.cell (i:=4) (j:=0) rfl rfl)⟩,⟨_,rfl,Bm kr (hS.cell (i:=3) (j:=0) rfl rfl)⟩,⟨_,rfl,Bm kr (hS.cell (i:=2) (j:=0) rfl rfl)⟩,trivial⟩,?_⟩)
    have hr_:=Option.some.inj h
    subst hr_
    exact ⟨_,rfl,ν207,_,_,_,hext,rfl,bE,St.pick [6,0] (by decide) hS⟩
theorem Kg (F:Nat) (p0:(List Int)) (res:((List volume_Item)×Int×Int)) (h:Cs F p0=some res) (μ:Frz) (w0:World) (hm:FrzAt μ w0) {ad1:Option Addr} {cap2:Nat} (hA3:ArrM μ 1 (fK .u8) ad1 cap2 p0):Dd Try.prog 15 #[sv ad1 p0 cap2] w0 (fun e w=>∃(ν_:Frz) (zad0:Option Addr) (zcap0:Nat) (zcss0:List (List Value)),μ.ext w0.heap.size ν_∧e=(.tuple #[sv zad0 res.1 zcap0,iv res.2.1,iv res.2.2])∧All2 (Rp46 ν_) zcss0 res.1∧St w0 [fz w0 ν_,arr 46 21 (fN 21) zad0 res.1.length zcap0 zcss0] w):=by
 obtain ⟨hlow,hS⟩:=hm.init
 have hext:=Frz.ext_refl w0.heap.size μ
 rw [Cs] at h
 refine Sc Try.func15 rfl 35 [(0,sv ad1 p0 cap2)] rfl rfl kr fun a w hw hF=>?_
 replace hS:=hS.cast hw
 clear hw
 replace hS:=hS.noMarks
 refine esr ?_
 refine SK.wi (Bs (t:=24) (fun b4=>[(0,sv ad1 p0 cap2),(2,pb b4)]) #[.slice none 0 0] hF hS kr ⟨kr⟩ kr (fun _=>⟨kr⟩) fun b4 w a hF hS=>?_)
 refine SK.wi (Bs (t:=3) (fun b5=>[(0,sv ad1 p0 cap2),(2,pb b4),(3,pb b5)]) #[iv 0] hF hS kr ⟨kr⟩ kr (fun _=>⟨kr⟩) fun b5 w a hF hS=>?_)
 refine rn 1 3 [(0,sv ad1 p0 cap2),(2,pb b4),(3,pb b5),(4,iv 0)] hF fun a hF=>?_
 refine wfn rfl ?_
 refine B0 ?_
 refine esr ?_
 refine rn 3 3 [(0,sv ad1 p0 cap2),(2,pb b4),(3,pb b5),(4,iv 0),(11,.bool (decide ((ln p0)>16777216)))] hF fun a hF=>?_
 refine wfn rfl ?_
 refine As hF rfl (fun hc=>?_) (fun hc=>?_)
 ·replace h:=Ao h hc
  refine esr ?_
  refine SK.wi (Ap (t:=24) [(2,pb b4),(3,pb b5),(4,iv 0)] 1 0 (.slice none 0 0) #[.slice none 0 0] hF hS rfl kr ⟨kr⟩ kr kr kr kr ⟨kr⟩ fun w a hF hS=>?_)
  refine SK.wi (Ap (t:=3) [(2,pb b4),(3,pb b5),(4,iv 0)] 0 0 (iv 0) #[iv 0] hF hS rfl kr ⟨kr⟩ kr kr kr kr ⟨kr⟩ fun w a hF hS=>?_)
  refine rn 1 3 [(2,pb b4),(3,pb b5),(4,iv 8)] hF fun a hF=>?_
  refine wfn rfl ?_
  refine wpIn_ret (Ab<|N5 (H:=[blk b5 3 #[iv 0],blk b4 24 #[.slice none 0 0],fz w0 μ]) [.cell 2 24,.cell 3 3,.tmp 4] [.slice none 0 0,iv 0,iv 8] hF (St.pick [2,0,1,3] (by decide) hS) rfl fun w hS=>⟨⟨⟨_,rfl,Bm kr (hS.cell (i:=1) (j:=0) rfl rfl)⟩,⟨_,rfl,Bm kr (hS.cell (i:=0) (j:=0) rfl rfl)⟩,rfl,trivial⟩,?_⟩)
  have hr_:=Option.some.inj h
  subst hr_
  replace hS:=hS.nilarr 46 21 (fN 21)
  exact ⟨_,rfl,μ,_,_,_,hext,rfl,All2.nil,St.pick [3,0] (by decide) hS⟩
 ·replace h:=An h hc
  refine wpIn_skip (A1 ?_)
  refine B0 ?_
  refine esr ?_
  refine rn 1 1 [(2,pb b4),(3,pb b5),(4,iv 0),(12,sv ad1 p0 cap2)] hF fun a hF=>?_
  refine SK.wi (Bz (fun v6=>[(2,pb b4),(3,pb b5),(4,iv 0),(13,v6)]) hF kr ⟨kr⟩ (Mv p0 _ rfl (Bp w) w (A7 w) (hA3.mono (FrzAt.le_mem (hS.frz (i:=3) rfl hlow)))) (fun _=>⟨kr⟩) ?_)
  rintro v6 w a ⟨b7,rfl,hQ⟩ hF
  replace hS:=hS.madeL hQ
  refine wfn rfl ?_
  refine wpIn_block ?_
  obtain ⟨ν8,hx9,hlow,hS,aX⟩:=hS.freeze (i:=4) (j:=0) rfl rfl (by decide) hlow
  replace hA3:=hA3.mono hx9.1
  replace hext:=Frz.ext_trans hext hx9
  have hB11:BlkM ν8 b7 23 #[sv ad1 p0 cap2]:=aX
  replace hS:=hS.nilarr 46 21 (fN 21)
  replace h:=A4 h
  obtain ⟨a1,hr189,h⟩:=h
  refine Yt (gf:=36) (lb:=#[pb b7]) (fun l=>#[.func (.yield l) #[] #[],pb b7]) (fun H1=>∃(ν_n:Frz) (g_n:(Option Addr×Nat×List (List Value)×Unit)),H1=[arr 46 21 (fN 21) g_n.1 a1.1.1.length g_n.2.1 g_n.2.2.1,blk b5 3 #[iv a1.1.2.1],blk b4 24 #[.slice g_n.1 a1.1.1.length g_n.2.1],E5 ([]),fz w0 ν_n]∧ν8.ext w0.heap.size ν_n∧Ba w0 ν_n∧a1.2=true∧(All2 (Rp46 ν_n) g_n.2.2.1 a1.1.1)) (fun c H1=>∃(ν_n:Frz) (g_n:(Option Addr×Nat×List (List Value)×Unit)),H1=[arr 46 21 (fN 21) g_n.1 a1.1.1.length g_n.2.1 g_n.2.2.1,blk b5 3 #[iv a1.1.2.1],blk b4 24 #[.slice g_n.1 a1.1.1.length g_n.2.1],E5 ([]),fz w0 ν_n]∧ν8.ext w0.heap.size ν_n∧Ba w0 ν_n∧a1.2=false∧c=Kf (a1.1.2.2)∧(All2 (Rp46 ν_n) g_n.2.2.1 a1.1.1)) (M:=[(2,pb b4),(3,pb b5),(4,iv 0),(13,.func (.func 36) #[] #[pb b7])]) (hF.sub kr) rfl hS (fun _=>rfl) (fun _=>by kernel_rfl) ?_ ?_ ?_
  ·replace hF:Fr 35 (Mn ([])) [(2,pb b4),(3,pb b5),(4,iv 0),(13,.func (.func 36) #[] #[pb b7])] a:=hF.sub kr
   intro fn_ l1_ D1_ rec1 w hrec1 hS
   replace hS:St w0 [Ef l1_ (rec1 .ready none),Ef D1_ (.deferred (some [])),arr 46 21 (fN 21) none ([]:List volume_Item).length 0 ([]:List (List Value)),blk b5 3 #[iv 0],blk b4 24 #[.slice none 0 0],E5 ([]),fz w0 ν8] w:=hS
   refine Calls.mono (Ma F p0 (G7 F) (([]:List volume_Item),0,0) _ hr189 l1_ ν8 w0 w (fun (s_r:((List volume_Item)×Int×Nat)) (b_r:Bool) (g_r:(Option Addr×Nat×List (List Value)×Unit))=>[Ef l1_ (rec1 (bif b_r then .ready else .done) (bif b_r then none else some (Kf (s_r.2.2)))),Ef D1_ (.deferred (some [])),arr 46 21 (fN 21) g_r.1 s_r.1.length g_r.2.1 g_r.2.2.1,blk b5 3 #[iv s_r.2.1],blk b4 24 #[.slice g_r.1 s_r.1.length g_r.2.1],E5 ([])]) (fun (s_r:((List volume_Item)×Int×Nat)) (b_r:Bool) (g_r:(Option Addr×Nat×List (List Value)×Unit)) (ν_r:Frz)=>(All2 (Rp46 ν_r) g_r.2.2.1 s_r.1)∧True) (fun _ _ _ _ _ h hle=>⟨All2.mono Rp46.mono hle h.1,trivial⟩) ?_ (none,0,[],()) [] hlow ⟨All2.nil,trivial⟩ (St.pickT (A:=[Ef l1_ (rec1 .ready none),Ef D1_ (.deferred (some [])),arr 46 21 (fN 21) none ([]:List volume_Item).length 0 ([]:List (List Value)),blk b5 3 #[iv 0],blk b4 24 #[.slice none 0 0],E5 ([]),fz w0 ν8]) (T:=[]) [6,0,1,2,3,4,5] (by decide) (by simpa using hS)) hB11 hA3) ?_
   ·rintro s_r x_ q_r h ν_r g_r G_r w aD aE hxv hlow hP aC hS
    obtain ⟨a3,-⟩:=hP
    replace hA3:=hA3.mono hxv.1
    replace hB11:=hB11.mono hxv.1
    have hxr:=Frz.ext_refl w0.heap.size ν_r
    replace hext:=Frz.ext_trans hext hxv
    replace hS:St w0 (Ef l1_ (rec1 .ready none)::Ef D1_ (.deferred (some []))::arr 46 21 (fN 21) g_r.1 s_r.1.length g_r.2.1 g_r.2.2.1::blk b5 3 #[iv s_r.2.1]::blk b4 24 #[.slice g_r.1 s_r.1.length g_r.2.1]::E5 ([])::fz w0 ν_r::G_r) w:=St.pickT (A:=[fz w0 ν_r,Ef l1_ (rec1 .ready none),Ef D1_ (.deferred (some [])),arr 46 21 (fN 21) g_r.1 s_r.1.length g_r.2.1 g_r.2.2.1,blk b5 3 #[iv s_r.2.1],blk b4 24 #[.slice g_r.1 s_r.1.length g_r.2.1],E5 ([])]) (T:=G_r) [1,2,3,4,5,6,0] (by decide) hS
    rw [G7] at h
    refine Yw (rec:=rec1) hrec1 [(14,iv x_.1),(15,sv aD x_.2 aE)] [(2,pb b4),(3,pb b5),(14,iv x_.1),(15,sv aD x_.2 aE)] hF (by simp) rfl rfl kr hS ?_
    intro a hF
    refine WI.region ?_
    refine rn 1 1 [(2,pb b4),(3,pb b5),(6,sv aD x_.2 aE)] hF fun a hF=>?_
    refine wfn rfl ?_
    refine ⟨_,hS,fun w hS=>?_⟩
    refine wpIn_block ?_
    refine esr ?_
    refine rn 1 1 [(2,pb b4),(3,pb b5),(17,sv aD x_.2 aE)] hF fun a hF=>?_
    replace h:=A4 h
    obtain ⟨aP,aV,h⟩:=h
    refine SK.wi (Bz (fun aN=>[(2,pb b4),(3,pb b5),(18,aN)]) hF kr ⟨kr⟩ (Mw F _ _ aV ν_r w (hS.frz (i:=6) rfl hlow) aC) (fun _=>⟨kr⟩) ?_)
    rintro aN w a ⟨ν141,aJ,a9,rfl,aI,hQ⟩ hF
    replace hext:=Frz.ext_trans hext (Frz.ext_mono a9 hS.ext.size)
    replace hxr:=Frz.ext_trans hxr (Frz.ext_mono a9 hS.ext.size)
    obtain ⟨hlow,hS⟩:=hS.frzMerge (i:=6) rfl hlow a9 hQ
    replace hA3:=hA3.mono a9.1
    replace hB11:=hB11.mono a9.1
    replace a3:=All2.mono Rp46.mono a9.1 a3
    replace aC:=aC.mono a9.1
    refine rn 5 7 [(2,pb b4),(3,pb b5),(7,aJ),(8,iv aP.2)] hF fun a hF=>?_
    refine wfn rfl ?_
    refine esr ?_
    refine rn 2 2 [(2,pb b4),(3,pb b5),(7,aJ),(22,.bool (aP.2==0))] hF fun a hF=>?_
    refine wfn rfl ?_
    refine As hF rfl (fun hc=>?_) (fun hc=>?_)
    ·replace h:=Ao h hc
     replace h:=A4 h
     obtain ⟨a0,aW,h⟩:=h
     refine Cz 4 [2,3] _ (D:=fun w=>St w0 [Ef l1_ (rec1 .busy none),Ef D1_ (.deferred (some [])),arr 46 21 (fN 21) g_r.1 s_r.1.length g_r.2.1 g_r.2.2.1,blk b5 3 #[iv s_r.2.1],blk b4 24 #[.slice g_r.1 s_r.1.length g_r.2.1],E5 ([])] w∧FrzAt ν141 w) kr kr hF.size (fun w hx=>?_) (fun _ _ h=>h)
     replace hS:=hS.later hx
     refine ⟨⟨St.pick [0,1,2,3,4,5] (by decide) hS,hS.frz (i:=6) rfl hlow⟩,?_⟩
     have aF:=Frz.le_refl ν141
     refine WT.s [0,1] [2] kr kr ?_
     refine Ek (rest:=[]) (obs:=[.run [] (Instr.loadAt 24 (pb b4)) (.slice g_r.1 s_r.1.length g_r.2.1)]) [0,1] [(2,pb b4),(23,.slice g_r.1 s_r.1.length g_r.2.1),(24,aJ)] hF kr kr (A0 (ob1 kr (fun _ hd=>hd.1.cell (i:=4) (j:=0) rfl rfl)) Aa) ⟨kr⟩ fun a hF=>?_
     refine WRun.fin ?_
     refine all_cons ?_ (Ay)
     refine W5 (fun aO=>[(2,pb b4),(23,.slice g_r.1 s_r.1.length g_r.2.1),(25,aO)]) hF kr ⟨kr⟩ (Lf F _ _ aW ν141 w (hS.frz (i:=6) rfl hlow) aI) (fun _=>⟨kr⟩) ?_
     rintro aO w a ⟨ν172,a5,a7,aQ,a6,a8,a4,rfl,aR,aS,hQ⟩ hF
     replace hext:=Frz.ext_trans hext (Frz.ext_mono a4 hS.ext.size)
     replace hxr:=Frz.ext_trans hxr (Frz.ext_mono a4 hS.ext.size)
     obtain ⟨hlow,hS⟩:=hS.frzMerge (i:=6) rfl hlow a4 hQ
     replace hA3:=hA3.mono a4.1
     replace hB11:=hB11.mono a4.1
     replace a3:=All2.mono Rp46.mono a4.1 a3
     replace aC:=aC.mono a4.1
     replace aI:=aI.mono a4.1
     replace aF:=Frz.le_trans aF a4.1
     refine ⟨⟨St.pick [0,1,2,3,4,5] (by decide) hS,(hS.frz (i:=6) rfl hlow).low aF⟩,?_⟩
     refine WT.s [] [3] kr kr ?_
     refine WRun.fin ?_
     refine all_cons ?_ (Ay)
     have aM:All2 (Rp46 ν172) ([[iv a0.Kind,.string a0.Name,iv a0.Time,.string a0.Sweep.Site.Name,iv a0.Sweep.Site.X,iv a0.Sweep.Site.Y,iv a0.Sweep.Site.Z,iv a0.Sweep.Site.Rose,iv a0.Sweep.Site.Gates,iv a0.Sweep.Site.Step,iv a0.Sweep.Site.Width,iv a0.Sweep.Tilt,iv a0.Sweep.Time,sv a5 a0.Sweep.Rays a7,iv a0.Field.Grid.X,iv a0.Field.Grid.Y,iv a0.Field.Grid.Size,iv a0.Field.Grid.Wide,iv a0.Field.Grid.High,sv a6 a0.Field.Vals a8,.string a0.Text]]:List (List Value)) [a0]:=(All2.cons ⟨a5,a7,aQ,a6,a8,rfl,aR,aS⟩ All2.nil)
     refine Sk (e:=46) (sz:=21) (f:=fN 21) (t:=24) (len:=1) (fun aK=>[(2,pb b4),(23,.slice g_r.1 s_r.1.length g_r.2.1),(26,sb aK 1)]) #[(0,.agg #[iv a0.Kind,.string a0.Name,iv a0.Time,.string a0.Sweep.Site.Name,iv a0.Sweep.Site.X,iv a0.Sweep.Site.Y,iv a0.Sweep.Site.Z,iv a0.Sweep.Site.Rose,iv a0.Sweep.Site.Gates,iv a0.Sweep.Site.Step,iv a0.Sweep.Site.Width,iv a0.Sweep.Tilt,iv a0.Sweep.Time,sv a5 a0.Sweep.Rays a7,iv a0.Field.Grid.X,iv a0.Field.Grid.Y,iv a0.Field.Grid.Size,iv a0.Field.Grid.Wide,iv a0.Field.Grid.High,sv a6 a0.Field.Vals a8,.string a0.Text])] #[iv a0.Kind,.string a0.Name,iv a0.Time,.string a0.Sweep.Site.Name,iv a0.Sweep.Site.X,iv a0.Sweep.Site.Y,iv a0.Sweep.Site.Z,iv a0.Sweep.Site.Rose,iv a0.Sweep.Site.Gates,iv a0.Sweep.Site.Step,iv a0.Sweep.Site.Width,iv a0.Sweep.Tilt,iv a0.Sweep.Time,sv a5 a0.Sweep.Rays a7,iv a0.Field.Grid.X,iv a0.Field.Grid.Y,iv a0.Field.Grid.Size,iv a0.Field.Grid.Wide,iv a0.Field.Grid.High,sv a6 a0.Field.Vals a8,.string a0.Text] ([[iv a0.Kind,.string a0.Name,iv a0.Time,.string a0.Sweep.Site.Name,iv a0.Sweep.Site.X,iv a0.Sweep.Site.Y,iv a0.Sweep.Site.Z,iv a0.Sweep.Site.Rose,iv a0.Sweep.Site.Gates,iv a0.Sweep.Site.Step,iv a0.Sweep.Site.Width,iv a0.Sweep.Tilt,iv a0.Sweep.Time,sv a5 a0.Sweep.Rays a7,iv a0.Field.Grid.X,iv a0.Field.Grid.Y,iv a0.Field.Grid.Size,iv a0.Field.Grid.Wide,iv a0.Field.Grid.High,sv a6 a0.Field.Vals a8,.string a0.Text]]:List (List Value)) ([a0]) hF hS kr ⟨kr⟩ kr (Dp 21) rfl rfl rfl kr (fun _=>⟨kr⟩) fun aK w a hF hS=>⟨⟨St.pick [1,2,3,4,5,6] (by decide) hS,(hS.frz (i:=7) rfl hlow).low aF⟩,?_⟩
     refine WT.z [] kr ?_
     refine WRun.fin ?_
     replace h:=A4 h
     obtain ⟨aG,aL,h⟩:=h
     have aT:All2 (Rp46 ν172) (g_r.2.2.1++([[iv a0.Kind,.string a0.Name,iv a0.Time,.string a0.Sweep.Site.Name,iv a0.Sweep.Site.X,iv a0.Sweep.Site.Y,iv a0.Sweep.Site.Z,iv a0.Sweep.Site.Rose,iv a0.Sweep.Site.Gates,iv a0.Sweep.Site.Step,iv a0.Sweep.Site.Width,iv a0.Sweep.Tilt,iv a0.Sweep.Time,sv a5 a0.Sweep.Rays a7,iv a0.Field.Grid.X,iv a0.Field.Grid.Y,iv a0.Field.Grid.Size,iv a0.Field.Grid.Wide,iv a0.Field.Grid.High,sv a6 a0.Field.Vals a8,.string a0.Text]]:List (List Value))) aG:=by rw [(J7 aL).1];exact All2.app a3 aM
     refine SK.wi (S5 (t:=24) (ty:=24) (bytes:=224) (c:=g_r.2.2.1) (c':=([[iv a0.Kind,.string a0.Name,iv a0.Time,.string a0.Sweep.Site.Name,iv a0.Sweep.Site.X,iv a0.Sweep.Site.Y,iv a0.Sweep.Site.Z,iv a0.Sweep.Site.Rose,iv a0.Sweep.Site.Gates,iv a0.Sweep.Site.Step,iv a0.Sweep.Site.Width,iv a0.Sweep.Tilt,iv a0.Sweep.Time,sv a5 a0.Sweep.Rays a7,iv a0.Field.Grid.X,iv a0.Field.Grid.Y,iv a0.Field.Grid.Size,iv a0.Field.Grid.Wide,iv a0.Field.Grid.High,sv a6 a0.Field.Vals a8,.string a0.Text]]:List (List Value))) (l:=s_r.1) (l':=([a0])) (fun aA aB=>[(2,pb b4),(27,sv aA aG aB)]) 3 hF hS rfl kr ⟨kr⟩ kr (hS.arr (i:=0) rfl) (ArrQ.one aM Rp46.one) aL (fun _ _=>⟨kr⟩) fun aA aB w a hF hS=>?_)
     refine SK.wi (Ap (t:=24) [] 5 0 (sv aA aG aB) #[sv aA aG aB] hF hS rfl kr ⟨kr⟩ kr kr kr kr ⟨kr⟩ fun w a hF hS=>?_)
     refine WI.fin rfl (Ac ?_)
     have hr_:=Option.some.inj h
     subst hr_
     refine ⟨_,hS.s1,fun w hS=>⟨rfl,ν172,(aA,aB,(g_r.2.2.1++([[iv a0.Kind,.string a0.Name,iv a0.Time,.string a0.Sweep.Site.Name,iv a0.Sweep.Site.X,iv a0.Sweep.Site.Y,iv a0.Sweep.Site.Z,iv a0.Sweep.Site.Rose,iv a0.Sweep.Site.Gates,iv a0.Sweep.Site.Step,iv a0.Sweep.Site.Width,iv a0.Sweep.Tilt,iv a0.Sweep.Time,sv a5 a0.Sweep.Rays a7,iv a0.Field.Grid.X,iv a0.Field.Grid.Y,iv a0.Field.Grid.Size,iv a0.Field.Grid.Wide,iv a0.Field.Grid.High,sv a6 a0.Field.Vals a8,.string a0.Text]]:List (List Value))),()),hxr,hlow,⟨aT,trivial⟩,hS.d1.s6⟩⟩
    ·replace h:=An h hc
     refine WI.region ?_
     replace h:=A4 h
     obtain ⟨aH,aU,h⟩:=h
     refine rno 2 [.run [] (Instr.loadAt 3 (pb b5)) (iv s_r.2.1),.run [] (binOp .add 3 (iv s_r.2.1) (iv 1)) (iv aH)] 2 [(3,pb b5),(29,iv aH)] hF (A0 (ob1 kr (fun _ hd=>(hS.at_ hd).cell (i:=3) (j:=0) rfl rfl)) (A0 (Aw (fun _=>aU)) Aa)) fun a hF=>?_
     refine SK.wi (Ap (t:=3) [] 3 0 (iv aH) #[iv aH] hF hS rfl kr ⟨kr⟩ kr kr kr kr ⟨kr⟩ fun w a hF hS=>?_)
     refine WI.fin rfl (Ac ?_)
     have hr_:=Option.some.inj h
     subst hr_
     refine ⟨_,hS,fun w hS=>⟨rfl,ν141,(g_r.1,g_r.2.1,g_r.2.2.1,()),hxr,hlow,⟨a3,trivial⟩,hS.s6⟩⟩
   ·rintro e w2 ⟨ν_n,g_n,hxn,hlown,hPn,rfl,hSn⟩
    refine ⟨_,rfl,?_⟩
    obtain ⟨nhq133,-⟩:=hPn
    rcases Bool.eq_false_or_eq_true a1.2 with hb_|hb_
    ·rw [hb_] at hSn
     refine .inl ⟨_,⟨ν_n,g_n,rfl,hxn,hlown,hb_,nhq133⟩,(by have:=St.pickT (A:=[fz w0 ν_n,Ef l1_ (rec1 .ready none),Ef D1_ (.deferred (some [])),arr 46 21 (fN 21) g_n.1 a1.1.1.length g_n.2.1 g_n.2.2.1,blk b5 3 #[iv a1.1.2.1],blk b4 24 #[.slice g_n.1 a1.1.1.length g_n.2.1],E5 ([])]) (T:=[]) [1,2,3,4,5,6,0] (by decide) hSn;simpa using this)⟩
    ·rw [hb_] at hSn
     refine .inr ⟨_,_,⟨ν_n,g_n,rfl,hxn,hlown,hb_,rfl,nhq133⟩,(by have:=St.pickT (A:=[fz w0 ν_n,Ef l1_ (rec1 .done (some (Kf (a1.1.2.2)))),Ef D1_ (.deferred (some [])),arr 46 21 (fN 21) g_n.1 a1.1.1.length g_n.2.1 g_n.2.2.1,blk b5 3 #[iv a1.1.2.1],blk b4 24 #[.slice g_n.1 a1.1.1.length g_n.2.1],E5 ([])]) (T:=[]) [1,2,3,4,5,6,0] (by decide) hSn;simpa using this)⟩
  ·rintro D192 a w _ ⟨ν191,a2,rfl,hxn,hlow,hb_,a3⟩ hF hS
   replace hA3:=hA3.mono hxn.1
   replace hB11:=hB11.mono hxn.1
   replace hext:=Frz.ext_trans hext hxn
   replace hS:St w0 [Ef D192 (.deferred (some [])),arr 46 21 (fN 21) a2.1 a1.1.1.length a2.2.1 a2.2.2.1,blk b5 3 #[iv a1.1.2.1],blk b4 24 #[.slice a2.1 a1.1.1.length a2.2.1],E5 ([]),fz w0 ν191] w:=hS
   replace hS:=St.mark (St.pick [0,4,1,2,3,5] (by decide) hS)
   replace hS:St w0 [E5 (D192::[]),arr 46 21 (fN 21) a2.1 a1.1.1.length a2.2.1 a2.2.2.1,blk b5 3 #[iv a1.1.2.1],blk b4 24 #[.slice a2.1 a1.1.1.length a2.2.1],fz w0 ν191] w:=hS
   replace hF:Fr 35 (Mn (D192::[])) [(2,pb b4),(3,pb b5),(4,iv 0),(13,.func (.func 36) #[] #[pb b7])] a:=hF
   replace h:=Ao h hb_
   refine Ac<|A1<|?_
   replace hF:Fr 35 (Mn (D192::[])) [(2,pb b4),(3,pb b5)] a:=hF.sub kr
   refine B0 ?_
   refine esr ?_
   refine rno 3 [.run [] (Instr.loadAt 24 (pb b4)) (.slice a2.1 a1.1.1.length a2.2.1)] 3 [(2,pb b4),(3,pb b5),(32,.bool (decide ((ln a1.1.1)>1000)))] hF (A0 (ob1 kr (fun _ hd=>(hS.at_ hd).cell (i:=3) (j:=0) rfl rfl)) Aa) fun a hF=>?_
   refine wfn rfl ?_
   refine As hF rfl (fun hc=>?_) (fun hc=>?_)
   ·replace h:=Ao h hc
    refine esr ?_
    refine SK.wi (Ap (t:=24) [(2,pb b4),(3,pb b5)] 3 0 (.slice none 0 0) #[.slice none 0 0] hF hS rfl kr ⟨kr⟩ kr kr kr kr ⟨kr⟩ fun w a hF hS=>?_)
    refine SK.wi (Ap (t:=3) [(2,pb b4),(3,pb b5)] 2 0 (iv 0) #[iv 0] hF hS rfl kr ⟨kr⟩ kr kr kr kr ⟨kr⟩ fun w a hF hS=>?_)
    refine rn 1 3 [(2,pb b4),(3,pb b5),(4,iv 9)] hF fun a hF=>?_
    refine wfn rfl ?_
    refine wpIn_ret (Ab<|N5 (H:=[arr 46 21 (fN 21) a2.1 a1.1.1.length a2.2.1 a2.2.2.1,blk b5 3 #[iv 0],blk b4 24 #[.slice none 0 0],fz w0 ν191]) [.cell 2 24,.cell 3 3,.tmp 4] [.slice none 0 0,iv 0,iv 9] hF (St.pick [0,1,2,3,4] (by decide) hS) rfl fun w hS=>⟨⟨⟨_,rfl,Bm kr (hS.cell (i:=2) (j:=0) rfl rfl)⟩,⟨_,rfl,Bm kr (hS.cell (i:=1) (j:=0) rfl rfl)⟩,rfl,trivial⟩,?_⟩)
    have hr_:=Option.some.inj h
    subst hr_
    replace hS:=hS.nilarr 46 21 (fN 21)
    exact ⟨_,rfl,ν191,_,_,_,hext,rfl,All2.nil,St.pick [4,0] (by decide) hS⟩
   ·replace h:=An h hc
    refine wpIn_skip (A1 ?_)
    refine B0 ?_
    refine Cz 3 [2] _ (D:=fun w=>St w0 [E5 (D192::[]),arr 46 21 (fN 21) a2.1 a1.1.1.length a2.2.1 a2.2.2.1,blk b5 3 #[iv a1.1.2.1],blk b4 24 #[.slice a2.1 a1.1.1.length a2.2.1]] w∧FrzAt ν191 w) kr kr hF.size (fun w hx=>?_) (fun _ _ h=>h)
    replace hS:=hS.later hx
    refine ⟨⟨St.pick [0,1,2,3] (by decide) hS,hS.frz (i:=4) rfl hlow⟩,?_⟩
    have aY:=Frz.le_refl ν191
    refine WT.s [0,1] [2] kr kr ?_
    refine Ek (rest:=[]) (obs:=[.run [] (Instr.loadAt 24 (pb b4)) (.slice a2.1 a1.1.1.length a2.2.1),.run [] (Instr.loadAt 3 (pb b5)) (iv a1.1.2.1)]) [0,1] [(2,pb b4),(3,pb b5),(33,.slice a2.1 a1.1.1.length a2.2.1),(34,iv a1.1.2.1)] hF kr kr (A0 (ob1 kr (fun _ hd=>hd.1.cell (i:=3) (j:=0) rfl rfl)) (A0 (ob1 kr (fun _ hd=>hd.1.cell (i:=2) (j:=0) rfl rfl)) Aa)) ⟨kr⟩ fun a hF=>?_
    refine WRun.fin ?_
    refine all_cons ?_ (Ay)
    refine Ap (t:=24) [(2,pb b4),(3,pb b5),(34,iv a1.1.2.1)] 3 0 (.slice a2.1 a1.1.1.length a2.2.1) #[.slice a2.1 a1.1.1.length a2.2.1] hF hS rfl kr ⟨kr⟩ kr kr kr kr ⟨kr⟩ fun w a hF hS=>⟨⟨St.pick [0,1,2,3] (by decide) hS,(hS.frz (i:=4) rfl hlow)⟩,?_⟩
    refine WT.z [] kr ?_
    refine WRun.fin ?_
    refine SK.wi (Ap (t:=3) [(2,pb b4),(3,pb b5)] 2 0 (iv a1.1.2.1) #[iv a1.1.2.1] hF hS rfl kr ⟨kr⟩ kr kr kr kr ⟨kr⟩ fun w a hF hS=>?_)
    refine rn 1 5 [(2,pb b4),(3,pb b5),(4,iv 0)] hF fun a hF=>?_
    refine wfn rfl ?_
    refine wpIn_ret (N5 (H:=[arr 46 21 (fN 21) a2.1 a1.1.1.length a2.2.1 a2.2.2.1,blk b5 3 #[iv a1.1.2.1],blk b4 24 #[.slice a2.1 a1.1.1.length a2.2.1],fz w0 ν191]) [.cell 2 24,.cell 3 3,.tmp 4] [.slice a2.1 a1.1.1.length a2.2.1,iv a1.1.2.1,iv 0] hF (St.pick [0,1,2,3,4] (by decide) hS) rfl fun w hS=>⟨⟨⟨_,rfl,Bm kr (hS.cell (i:=2) (j:=0) rfl rfl)⟩,⟨_,rfl,Bm kr (hS.cell (i:=1) (j:=0) rfl rfl)⟩,rfl,trivial⟩,?_⟩)
    have hr_:=Option.some.inj h
    subst hr_
    exact ⟨_,rfl,ν191,_,_,_,hext,rfl,a3,St.pick [3,0] (by decide) hS⟩
  rintro D192 _ a w _ ⟨ν191,a2,rfl,hxn,hlow,hb_,rfl,a3⟩ hF hS
  replace hA3:=hA3.mono hxn.1
  replace hB11:=hB11.mono hxn.1
  replace hext:=Frz.ext_trans hext hxn
  replace hS:St w0 [Ef D192 (.deferred (some [])),arr 46 21 (fN 21) a2.1 a1.1.1.length a2.2.1 a2.2.2.1,blk b5 3 #[iv a1.1.2.1],blk b4 24 #[.slice a2.1 a1.1.1.length a2.2.1],E5 ([]),fz w0 ν191] w:=hS
  replace hS:=St.mark (St.pick [0,4,1,2,3,5] (by decide) hS)
  replace hS:St w0 [E5 (D192::[]),arr 46 21 (fN 21) a2.1 a1.1.1.length a2.2.1 a2.2.2.1,blk b5 3 #[iv a1.1.2.1],blk b4 24 #[.slice a2.1 a1.1.1.length a2.2.1],fz w0 ν191] w:=hS
  replace hF:Fr 35 (Mn (D192::[])) [(2,pb b4),(3,pb b5),(4,iv 0),(13,.func (.func 36) #[] #[pb b7])] a:=hF
  replace h:=An h hb_
  cases h
end Go.Proofs.Ytifbomimeodibaa
