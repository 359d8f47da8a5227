import Derived.Test.YtifbomimeodibaaV6XD
import Derived.Test.YtifbomimeodibaaProg
import Derived.Test.YtifbomimeodibaaV6WnN
namespace Go.Proofs.Ytifbomimeodibaa
open Go Go.RowKit Go.Eng
set_option maxRecDepth 10000
set_option maxHeartbeats 4000000
set_option linter.unusedVariables false
set_option linter.unusedSimpArgs false
theorem Kr (p0:volume_sweep) (res:volume_Item) (h:A3 p0=res) (μ:Frz) (w0:World) (hm:FrzAt μ w0) {ad1:Option Addr} {cap2:Nat} {css3:List (List Value)} (hA4:ArrQ μ 1 Rp83 ad1 cap2 css3 p0.Sweep.Rays):Df Try.prog 86 #[.agg #[.string p0.Sweep.Site.Name,iv p0.Sweep.Site.X,iv p0.Sweep.Site.Y,iv p0.Sweep.Site.Z,iv p0.Sweep.Site.Rose,iv p0.Sweep.Site.Gates,iv p0.Sweep.Site.Step,iv p0.Sweep.Site.Width,iv p0.Sweep.Tilt,iv p0.Sweep.Time,sv ad1 p0.Sweep.Rays cap2]] w0 (fun e w=>∃(ν_:Frz) (ad7:Option Addr) (cap8:Nat) (css9:List (List Value)) (a0:Option Addr) (a1:Nat),μ.ext w0.heap.size ν_∧e=(.agg #[iv res.Kind,.string res.Name,iv res.Time,.string res.Sweep.Site.Name,iv res.Sweep.Site.X,iv res.Sweep.Site.Y,iv res.Sweep.Site.Z,iv res.Sweep.Site.Rose,iv res.Sweep.Site.Gates,iv res.Sweep.Site.Step,iv res.Sweep.Site.Width,iv res.Sweep.Tilt,iv res.Sweep.Time,sv ad7 res.Sweep.Rays cap8,iv res.Field.Grid.X,iv res.Field.Grid.Y,iv res.Field.Grid.Size,iv res.Field.Grid.Wide,iv res.Field.Grid.High,sv a0 res.Field.Vals a1,.string res.Text])∧ArrQ ν_ 1 Rp83 ad7 cap8 css9 res.Sweep.Rays∧ArrM ν_ 2 api_Span.cells a0 a1 res.Field.Vals∧St w0 [fz w0 ν_] w):=by
 obtain ⟨hlow,hS⟩:=hm.init
 have hext:=Frz.ext_refl w0.heap.size μ
 rw [A3] at h
 refine Ap Try.func86 rfl 6 [(0,.agg #[.string p0.Sweep.Site.Name,iv p0.Sweep.Site.X,iv p0.Sweep.Site.Y,iv p0.Sweep.Site.Z,iv p0.Sweep.Site.Rose,iv p0.Sweep.Site.Gates,iv p0.Sweep.Site.Step,iv p0.Sweep.Site.Width,iv p0.Sweep.Tilt,iv p0.Sweep.Time,sv ad1 p0.Sweep.Rays cap2])] rfl rfl kr fun a w hw hF=>?_
 replace hS:=hS.cast hw
 clear hw
 refine esr ?_
 refine SK.wi (Fk (t:=112) (fun b5=>[(1,pb b5)]) (.agg #[.string p0.Sweep.Site.Name,iv p0.Sweep.Site.X,iv p0.Sweep.Site.Y,iv p0.Sweep.Site.Z,iv p0.Sweep.Site.Rose,iv p0.Sweep.Site.Gates,iv p0.Sweep.Site.Step,iv p0.Sweep.Site.Width,iv p0.Sweep.Tilt,iv p0.Sweep.Time,sv ad1 p0.Sweep.Rays cap2]) #[.string p0.Sweep.Site.Name,iv p0.Sweep.Site.X,iv p0.Sweep.Site.Y,iv p0.Sweep.Site.Z,iv p0.Sweep.Site.Rose,iv p0.Sweep.Site.Gates,iv p0.Sweep.Site.Step,iv p0.Sweep.Site.Width,iv p0.Sweep.Tilt,iv p0.Sweep.Time,sv ad1 p0.Sweep.Rays cap2] hF hS kr ⟨kr⟩ kr (fun _=>⟨kr⟩) fun b5 w a hF hS=>?_)
 refine SK.wi (Bs (t:=46) (fun b6=>[(1,pb b5),(2,pb b6)]) #[iv 0,.string ByteArray.empty,iv 0,.string ByteArray.empty,iv 0,iv 0,iv 0,iv 0,iv 0,iv 0,iv 0,iv 0,iv 0,.slice none 0 0,iv 0,iv 0,iv 0,iv 0,iv 0,.slice none 0 0,.string ByteArray.empty] hF hS kr ⟨kr⟩ kr (fun _=>⟨kr⟩) fun b6 w a hF hS=>?_)
 refine wfn rfl ?_
 refine esr ?_
 refine rno 3 [.run [] (Instr.loadAt 39 (pb b5)) (.agg #[.string p0.Sweep.Site.Name,iv p0.Sweep.Site.X,iv p0.Sweep.Site.Y,iv p0.Sweep.Site.Z,iv p0.Sweep.Site.Rose,iv p0.Sweep.Site.Gates,iv p0.Sweep.Site.Step,iv p0.Sweep.Site.Width,iv p0.Sweep.Tilt,iv p0.Sweep.Time,sv ad1 p0.Sweep.Rays cap2])] 3 [(2,pb b6),(5,.agg #[iv 1,.string ByteArray.empty,iv 0,.string p0.Sweep.Site.Name,iv p0.Sweep.Site.X,iv p0.Sweep.Site.Y,iv p0.Sweep.Site.Z,iv p0.Sweep.Site.Rose,iv p0.Sweep.Site.Gates,iv p0.Sweep.Site.Step,iv p0.Sweep.Site.Width,iv p0.Sweep.Tilt,iv p0.Sweep.Time,sv ad1 p0.Sweep.Rays cap2,iv 0,iv 0,iv 0,iv 0,iv 0,.slice none 0 0,.string ByteArray.empty])] hF (A0 (obN (us:=[.string p0.Sweep.Site.Name,iv p0.Sweep.Site.X,iv p0.Sweep.Site.Y,iv p0.Sweep.Site.Z,iv p0.Sweep.Site.Rose,iv p0.Sweep.Site.Gates,iv p0.Sweep.Site.Step,iv p0.Sweep.Site.Width,iv p0.Sweep.Tilt,iv p0.Sweep.Time,sv ad1 p0.Sweep.Rays cap2]) kr (fun _ hd=>((hS.at_ hd).blk (i:=1) rfl).cells rfl)) Ab) fun a hF=>?_
 refine SK.wi (Ao (t:=46) [(2,pb b6)] 0 0 (.agg #[iv 1,.string ByteArray.empty,iv 0,.string p0.Sweep.Site.Name,iv p0.Sweep.Site.X,iv p0.Sweep.Site.Y,iv p0.Sweep.Site.Z,iv p0.Sweep.Site.Rose,iv p0.Sweep.Site.Gates,iv p0.Sweep.Site.Step,iv p0.Sweep.Site.Width,iv p0.Sweep.Tilt,iv p0.Sweep.Time,sv ad1 p0.Sweep.Rays cap2,iv 0,iv 0,iv 0,iv 0,iv 0,.slice none 0 0,.string ByteArray.empty]) #[iv 1,.string ByteArray.empty,iv 0,.string p0.Sweep.Site.Name,iv p0.Sweep.Site.X,iv p0.Sweep.Site.Y,iv p0.Sweep.Site.Z,iv p0.Sweep.Site.Rose,iv p0.Sweep.Site.Gates,iv p0.Sweep.Site.Step,iv p0.Sweep.Site.Width,iv p0.Sweep.Tilt,iv p0.Sweep.Time,sv ad1 p0.Sweep.Rays cap2,iv 0,iv 0,iv 0,iv 0,iv 0,.slice none 0 0,.string ByteArray.empty] hF hS rfl kr ⟨kr⟩ kr kr kr kr ⟨kr⟩ fun w a hF hS=>?_)
 refine wfn rfl ?_
 refine wpIn_ret (Ah [.cell 2 46] [.agg #[iv 1,.string ByteArray.empty,iv 0,.string p0.Sweep.Site.Name,iv p0.Sweep.Site.X,iv p0.Sweep.Site.Y,iv p0.Sweep.Site.Z,iv p0.Sweep.Site.Rose,iv p0.Sweep.Site.Gates,iv p0.Sweep.Site.Step,iv p0.Sweep.Site.Width,iv p0.Sweep.Tilt,iv p0.Sweep.Time,sv ad1 p0.Sweep.Rays cap2,iv 0,iv 0,iv 0,iv 0,iv 0,.slice none 0 0,.string ByteArray.empty]] hF rfl ⟨⟨_,rfl,Fl (cs:=[iv 1,.string ByteArray.empty,iv 0,.string p0.Sweep.Site.Name,iv p0.Sweep.Site.X,iv p0.Sweep.Site.Y,iv p0.Sweep.Site.Z,iv p0.Sweep.Site.Rose,iv p0.Sweep.Site.Gates,iv p0.Sweep.Site.Step,iv p0.Sweep.Site.Width,iv p0.Sweep.Tilt,iv p0.Sweep.Time,sv ad1 p0.Sweep.Rays cap2,iv 0,iv 0,iv 0,iv 0,iv 0,.slice none 0 0,.string ByteArray.empty]) kr ((hS.blk (i:=0) rfl).cells rfl)⟩,trivial⟩ ?_)
 subst h
 exact ⟨_,rfl,μ,ad1,cap2,css3,none,0,hext,rfl,hA4,ArrM.nil,St.pick [2] (by decide) hS⟩
theorem Ko (p0:volume_field) (res:volume_Item) (h:A2 p0=res) (μ:Frz) (w0:World) (hm:FrzAt μ w0) {ad1:Option Addr} {cap2:Nat} (hA3:ArrM μ 2 api_Span.cells ad1 cap2 p0.Field.Vals):Df Try.prog 100 #[.agg #[.string p0.key,iv p0.time,iv p0.Field.Grid.X,iv p0.Field.Grid.Y,iv p0.Field.Grid.Size,iv p0.Field.Grid.Wide,iv p0.Field.Grid.High,sv ad1 p0.Field.Vals cap2]] w0 (fun e w=>∃(ν_:Frz) (ad6:Option Addr) (cap7:Nat) (css8:List (List Value)) (ad9:Option Addr) (a0:Nat),μ.ext w0.heap.size ν_∧e=(.agg #[iv res.Kind,.string res.Name,iv res.Time,.string res.Sweep.Site.Name,iv res.Sweep.Site.X,iv res.Sweep.Site.Y,iv res.Sweep.Site.Z,iv res.Sweep.Site.Rose,iv res.Sweep.Site.Gates,iv res.Sweep.Site.Step,iv res.Sweep.Site.Width,iv res.Sweep.Tilt,iv res.Sweep.Time,sv ad6 res.Sweep.Rays cap7,iv res.Field.Grid.X,iv res.Field.Grid.Y,iv res.Field.Grid.Size,iv res.Field.Grid.Wide,iv res.Field.Grid.High,sv ad9 res.Field.Vals a0,.string res.Text])∧ArrQ ν_ 1 Rp83 ad6 cap7 css8 res.Sweep.Rays∧ArrM ν_ 2 api_Span.cells ad9 a0 res.Field.Vals∧St w0 [fz w0 ν_] w):=by
 obtain ⟨hlow,hS⟩:=hm.init
 have hext:=Frz.ext_refl w0.heap.size μ
 rw [A2] at h
 refine Ap Try.func100 rfl 10 [(0,.agg #[.string p0.key,iv p0.time,iv p0.Field.Grid.X,iv p0.Field.Grid.Y,iv p0.Field.Grid.Size,iv p0.Field.Grid.Wide,iv p0.Field.Grid.High,sv ad1 p0.Field.Vals cap2])] rfl rfl kr fun a w hw hF=>?_
 replace hS:=hS.cast hw
 clear hw
 refine esr ?_
 refine SK.wi (Fk (t:=114) (fun b4=>[(1,pb b4)]) (.agg #[.string p0.key,iv p0.time,iv p0.Field.Grid.X,iv p0.Field.Grid.Y,iv p0.Field.Grid.Size,iv p0.Field.Grid.Wide,iv p0.Field.Grid.High,sv ad1 p0.Field.Vals cap2]) #[.string p0.key,iv p0.time,iv p0.Field.Grid.X,iv p0.Field.Grid.Y,iv p0.Field.Grid.Size,iv p0.Field.Grid.Wide,iv p0.Field.Grid.High,sv ad1 p0.Field.Vals cap2] hF hS kr ⟨kr⟩ kr (fun _=>⟨kr⟩) fun b4 w a hF hS=>?_)
 refine SK.wi (Bs (t:=46) (fun b5=>[(1,pb b4),(2,pb b5)]) #[iv 0,.string ByteArray.empty,iv 0,.string ByteArray.empty,iv 0,iv 0,iv 0,iv 0,iv 0,iv 0,iv 0,iv 0,iv 0,.slice none 0 0,iv 0,iv 0,iv 0,iv 0,iv 0,.slice none 0 0,.string ByteArray.empty] hF hS kr ⟨kr⟩ kr (fun _=>⟨kr⟩) fun b5 w a hF hS=>?_)
 refine wfn rfl ?_
 refine esr ?_
 refine rno 7 [.run [] (Instr.loadAt 9 (pb b4)) (.string p0.key),.run [] (Instr.loadAt 3 (.pointer (some ⟨b4,1,none⟩))) (iv p0.time),.run [] (Instr.loadAt 44 (.pointer (some ⟨b4,2,none⟩))) (.agg #[iv p0.Field.Grid.X,iv p0.Field.Grid.Y,iv p0.Field.Grid.Size,iv p0.Field.Grid.Wide,iv p0.Field.Grid.High,sv ad1 p0.Field.Vals cap2])] 7 [(2,pb b5),(9,.agg #[iv 2,.string p0.key,iv p0.time,.string ByteArray.empty,iv 0,iv 0,iv 0,iv 0,iv 0,iv 0,iv 0,iv 0,iv 0,.slice none 0 0,iv p0.Field.Grid.X,iv p0.Field.Grid.Y,iv p0.Field.Grid.Size,iv p0.Field.Grid.Wide,iv p0.Field.Grid.High,sv ad1 p0.Field.Vals cap2,.string ByteArray.empty])] hF (A0 (ob1 kr (fun _ hd=>(hS.at_ hd).cell (i:=1) (j:=0) rfl rfl)) (A0 (ob1 kr (fun _ hd=>(hS.at_ hd).cell (i:=1) (j:=1) rfl rfl)) (A0 (obN (us:=[iv p0.Field.Grid.X,iv p0.Field.Grid.Y,iv p0.Field.Grid.Size,iv p0.Field.Grid.Wide,iv p0.Field.Grid.High,sv ad1 p0.Field.Vals cap2]) kr (fun _ hd=>((hS.at_ hd).blk (i:=1) rfl).cells rfl)) Ab))) fun a hF=>?_
 refine SK.wi (Ao (t:=46) [(2,pb b5)] 0 0 (.agg #[iv 2,.string p0.key,iv p0.time,.string ByteArray.empty,iv 0,iv 0,iv 0,iv 0,iv 0,iv 0,iv 0,iv 0,iv 0,.slice none 0 0,iv p0.Field.Grid.X,iv p0.Field.Grid.Y,iv p0.Field.Grid.Size,iv p0.Field.Grid.Wide,iv p0.Field.Grid.High,sv ad1 p0.Field.Vals cap2,.string ByteArray.empty]) #[iv 2,.string p0.key,iv p0.time,.string ByteArray.empty,iv 0,iv 0,iv 0,iv 0,iv 0,iv 0,iv 0,iv 0,iv 0,.slice none 0 0,iv p0.Field.Grid.X,iv p0.Field.Grid.Y,iv p0.Field.Grid.Size,iv p0.Field.Grid.Wide,iv p0.Field.Grid.High,sv ad1 p0.Field.Vals cap2,.string ByteArray.empty] hF hS rfl kr ⟨kr⟩ kr kr kr kr ⟨kr⟩ fun w a hF hS=>?_)
 refine wfn rfl ?_
 refine wpIn_ret (Ah [.cell 2 46] [.agg #[iv 2,.string p0.key,iv p0.time,.string ByteArray.empty,iv 0,iv 0,iv 0,iv 0,iv 0,iv 0,iv 0,iv 0,iv 0,.slice none 0 0,iv p0.Field.Grid.X,iv p0.Field.Grid.Y,iv p0.Field.Grid.Size,iv p0.Field.Grid.Wide,iv p0.Field.Grid.High,sv ad1 p0.Field.Vals cap2,.string ByteArray.empty]] hF rfl ⟨⟨_,rfl,Fl (cs:=[iv 2,.string p0.key,iv p0.time,.string ByteArray.empty,iv 0,iv 0,iv 0,iv 0,iv 0,iv 0,iv 0,iv 0,iv 0,.slice none 0 0,iv p0.Field.Grid.X,iv p0.Field.Grid.Y,iv p0.Field.Grid.Size,iv p0.Field.Grid.Wide,iv p0.Field.Grid.High,sv ad1 p0.Field.Vals cap2,.string ByteArray.empty]) kr ((hS.blk (i:=0) rfl).cells rfl)⟩,trivial⟩ ?_)
 subst h
 exact ⟨_,rfl,μ,none,0,[],ad1,cap2,hext,rfl,ArrQ.nil,hA3,St.pick [2] (by decide) hS⟩
theorem Ky (p0:volume_note) (res:volume_Item) (h:A4 p0=res) (μ:Frz) (w0:World) (hm:FrzAt μ w0):Df Try.prog 108 #[.agg #[iv p0.time,.string p0.text]] w0 (fun e w=>∃(ν_:Frz) (ad3:Option Addr) (cap4:Nat) (css5:List (List Value)) (ad6:Option Addr) (cap7:Nat),μ.ext w0.heap.size ν_∧e=(.agg #[iv res.Kind,.string res.Name,iv res.Time,.string res.Sweep.Site.Name,iv res.Sweep.Site.X,iv res.Sweep.Site.Y,iv res.Sweep.Site.Z,iv res.Sweep.Site.Rose,iv res.Sweep.Site.Gates,iv res.Sweep.Site.Step,iv res.Sweep.Site.Width,iv res.Sweep.Tilt,iv res.Sweep.Time,sv ad3 res.Sweep.Rays cap4,iv res.Field.Grid.X,iv res.Field.Grid.Y,iv res.Field.Grid.Size,iv res.Field.Grid.Wide,iv res.Field.Grid.High,sv ad6 res.Field.Vals cap7,.string res.Text])∧ArrQ ν_ 1 Rp83 ad3 cap4 css5 res.Sweep.Rays∧ArrM ν_ 2 api_Span.cells ad6 cap7 res.Field.Vals∧St w0 [fz w0 ν_] w):=by
 obtain ⟨hlow,hS⟩:=hm.init
 have hext:=Frz.ext_refl w0.heap.size μ
 rw [A4] at h
 refine Ap Try.func108 rfl 8 [(0,.agg #[iv p0.time,.string p0.text])] rfl rfl kr fun a w hw hF=>?_
 replace hS:=hS.cast hw
 clear hw
 refine esr ?_
 refine SK.wi (Fk (t:=116) (fun b1=>[(1,pb b1)]) (.agg #[iv p0.time,.string p0.text]) #[iv p0.time,.string p0.text] hF hS kr ⟨kr⟩ kr (fun _=>⟨kr⟩) fun b1 w a hF hS=>?_)
 refine SK.wi (Bs (t:=46) (fun b2=>[(1,pb b1),(2,pb b2)]) #[iv 0,.string ByteArray.empty,iv 0,.string ByteArray.empty,iv 0,iv 0,iv 0,iv 0,iv 0,iv 0,iv 0,iv 0,iv 0,.slice none 0 0,iv 0,iv 0,iv 0,iv 0,iv 0,.slice none 0 0,.string ByteArray.empty] hF hS kr ⟨kr⟩ kr (fun _=>⟨kr⟩) fun b2 w a hF hS=>?_)
 refine wfn rfl ?_
 refine esr ?_
 refine rno 5 [.run [] (Instr.loadAt 3 (pb b1)) (iv p0.time),.run [] (Instr.loadAt 9 (.pointer (some ⟨b1,1,none⟩))) (.string p0.text)] 5 [(2,pb b2),(7,.agg #[iv 3,.string ByteArray.empty,iv p0.time,.string ByteArray.empty,iv 0,iv 0,iv 0,iv 0,iv 0,iv 0,iv 0,iv 0,iv 0,.slice none 0 0,iv 0,iv 0,iv 0,iv 0,iv 0,.slice none 0 0,.string p0.text])] hF (A0 (ob1 kr (fun _ hd=>(hS.at_ hd).cell (i:=1) (j:=0) rfl rfl)) (A0 (ob1 kr (fun _ hd=>(hS.at_ hd).cell (i:=1) (j:=1) rfl rfl)) Ab)) fun a hF=>?_
 refine SK.wi (Ao (t:=46) [(2,pb b2)] 0 0 (.agg #[iv 3,.string ByteArray.empty,iv p0.time,.string ByteArray.empty,iv 0,iv 0,iv 0,iv 0,iv 0,iv 0,iv 0,iv 0,iv 0,.slice none 0 0,iv 0,iv 0,iv 0,iv 0,iv 0,.slice none 0 0,.string p0.text]) #[iv 3,.string ByteArray.empty,iv p0.time,.string ByteArray.empty,iv 0,iv 0,iv 0,iv 0,iv 0,iv 0,iv 0,iv 0,iv 0,.slice none 0 0,iv 0,iv 0,iv 0,iv 0,iv 0,.slice none 0 0,.string p0.text] hF hS rfl kr ⟨kr⟩ kr kr kr kr ⟨kr⟩ fun w a hF hS=>?_)
 refine wfn rfl ?_
 refine wpIn_ret (Ah [.cell 2 46] [.agg #[iv 3,.string ByteArray.empty,iv p0.time,.string ByteArray.empty,iv 0,iv 0,iv 0,iv 0,iv 0,iv 0,iv 0,iv 0,iv 0,.slice none 0 0,iv 0,iv 0,iv 0,iv 0,iv 0,.slice none 0 0,.string p0.text]] hF rfl ⟨⟨_,rfl,Fl (cs:=[iv 3,.string ByteArray.empty,iv p0.time,.string ByteArray.empty,iv 0,iv 0,iv 0,iv 0,iv 0,iv 0,iv 0,iv 0,iv 0,.slice none 0 0,iv 0,iv 0,iv 0,iv 0,iv 0,.slice none 0 0,.string p0.text]) kr ((hS.blk (i:=0) rfl).cells rfl)⟩,trivial⟩ ?_)
 subst h
 exact ⟨_,rfl,μ,none,0,[],none,0,hext,rfl,ArrQ.nil,ArrM.nil,St.pick [2] (by decide) hS⟩
theorem Q6 (F:Nat) (p0:ByteArray) (res:Bool) (h:L4 F p0=some res) (μ:Frz) (w0:World) (hm:FrzAt μ w0):Calls Try.prog 55 #[.string p0] w0 (fun e w=>e=.returned (.bool res)∧Ext w0 w):=by
 obtain ⟨hlow,hS⟩:=hm.init
 have hext:=Frz.ext_refl w0.heap.size μ
 rw [L4] at h
 refine Ap Try.func55 rfl 25 [(0,.string p0)] rfl rfl kr fun a w hw hF=>?_
 replace hS:=hS.cast hw
 clear hw
 refine esr ?_
 refine rn 1 1 [(0,.string p0)] hF fun a hF=>?_
 refine wfn rfl ?_
 refine esr ?_
 replace h:=A5 h
 obtain ⟨u1,hu1,h⟩:=h
 replace h:=A5 h
 obtain ⟨u2,hu2,h⟩:=h
 refine rx 23 [.run [] (Lx .neq 9 p0 (⟨#[]⟩:ByteArray)) (.bool (!(sEq p0 (⟨#[]⟩:ByteArray)))),.run [⟨10,true,(bif (!(sEq p0 (⟨#[]⟩:ByteArray))) then (decide (((p0.size:Nat):Int)≤12)) else false)⟩] (Instr.index 9 (.string p0) (iv 0)) (.int .u8 u1),.run [⟨15,true,(bif (bif (!(sEq p0 (⟨#[]⟩:ByteArray))) then (decide (((p0.size:Nat):Int)≤12)) else false) then (decide (u1≥97)) else false)⟩] (Instr.index 9 (.string p0) (iv 0)) (.int .u8 u2),.call [⟨20,true,(bif (bif (bif (!(sEq p0 (⟨#[]⟩:ByteArray))) then (decide (((p0.size:Nat):Int)≤12)) else false) then (decide (u1≥97)) else false) then (decide (u2≤122)) else false)⟩] 57 #[.string p0,.func (.func 58) #[] #[]] (.bool (E2 p0))] 23 [(2,.bool (bif (bif (bif (bif (!(sEq p0 (⟨#[]⟩:ByteArray))) then (decide (((p0.size:Nat):Int)≤12)) else false) then (decide (u1≥97)) else false) then (decide (u2≤122)) else false) then (!(E2 p0)) else false))] hF (A0 Sf (A0 (Xu kr (fun hk=>Gb hu1 hk)) (A0 (Xu kr (fun hk=>Gb hu2 hk)) (A0 (show Ob.ok _ Ext _ _ from fun hk w2 hd=>Ma p0 _ rfl _ w2 (A7 w2)) Ab)))) fun a w hF hx=>?_
 replace hS:=hS.later hx
 refine wfn rfl ?_
 refine wpIn_ret (Ah [.tmp 2] [.bool (bif (bif (bif (bif (!(sEq p0 (⟨#[]⟩:ByteArray))) then (decide (((p0.size:Nat):Int)≤12)) else false) then (decide (u1≥97)) else false) then (decide (u2≤122)) else false) then (!(E2 p0)) else false)] hF rfl ⟨rfl,trivial⟩ ?_)
 have hr_:=Option.some.inj h
 subst hr_
 exact ⟨rfl,hS.ext⟩
theorem Ct (p0:Int) (p1:Int) (p2:Int) (res:Bool) (h:Af p0 p1 p2=res) (μ:Frz) (w0:World) (hm:FrzAt μ w0):Calls Try.prog 56 #[iv p0,iv p1,iv p2] w0 (fun e w=>e=.returned (.bool res)∧Ext w0 w):=by
 obtain ⟨hlow,hS⟩:=hm.init
 have hext:=Frz.ext_refl w0.heap.size μ
 rw [Af] at h
 refine Ap Try.func56 rfl 15 [(0,iv p0),(1,iv p1),(2,iv p2)] rfl rfl kr fun a w hw hF=>?_
 replace hS:=hS.cast hw
 clear hw
 refine esr ?_
 refine rn 1 1 [(0,iv p0),(1,iv p1),(2,iv p2)] hF fun a hF=>?_
 refine wfn rfl ?_
 refine esr ?_
 refine rn 9 9 [(6,.bool (bif (decide (p1≤p0)) then (decide (p0≤p2)) else false))] hF fun a hF=>?_
 refine wfn rfl ?_
 refine wpIn_ret (Ah [.tmp 6] [.bool (bif (decide (p1≤p0)) then (decide (p0≤p2)) else false)] hF rfl ⟨rfl,trivial⟩ ?_)
 subst h
 exact ⟨rfl,hS.ext⟩
theorem H6 (p0:Int) (p1:Int) (p2:Int) (res:Bool) (h:At p0 p1 p2=res) (μ:Frz) (w0:World) (hm:FrzAt μ w0):Calls Try.prog 94 #[iv p0,iv p1,iv p2] w0 (fun e w=>e=.returned (.bool res)∧Ext w0 w):=by
 obtain ⟨hlow,hS⟩:=hm.init
 have hext:=Frz.ext_refl w0.heap.size μ
 rw [At] at h
 refine Ap Try.func94 rfl 15 [(0,iv p0),(1,iv p1),(2,iv p2)] rfl rfl kr fun a w hw hF=>?_
 replace hS:=hS.cast hw
 clear hw
 refine esr ?_
 refine rn 1 1 [(0,iv p0),(1,iv p1),(2,iv p2)] hF fun a hF=>?_
 refine wfn rfl ?_
 refine esr ?_
 refine rn 9 9 [(6,.bool (bif (decide (p1≤p0)) then (decide (p0≤p2)) else false))] hF fun a hF=>?_
 refine wfn rfl ?_
 refine wpIn_ret (Ah [.tmp 6] [.bool (bif (decide (p1≤p0)) then (decide (p0≤p2)) else false)] hF rfl ⟨rfl,trivial⟩ ?_)
 subst h
 exact ⟨rfl,hS.ext⟩
theorem Kv (p0:api_Span) (p1:Int) (p2:Int) (res:Bool) (h:Aa p0 p1 p2=res) (μ:Frz) (w0:World) (hm:FrzAt μ w0):Calls Try.prog 97 #[.agg #[iv p0.Lo,iv p0.Hi],iv p1,iv p2] w0 (fun e w=>e=.returned (.bool res)∧Ext w0 w):=by
 obtain ⟨hlow,hS⟩:=hm.init
 have hext:=Frz.ext_refl w0.heap.size μ
 rw [Aa] at h
 refine Ap Try.func97 rfl 24 [(0,.agg #[iv p0.Lo,iv p0.Hi]),(1,iv p1),(2,iv p2)] rfl rfl kr fun a w hw hF=>?_
 replace hS:=hS.cast hw
 clear hw
 refine esr ?_
 refine SK.wi (Fk (t:=85) (fun b1=>[(1,iv p1),(2,iv p2),(3,pb b1)]) (.agg #[iv p0.Lo,iv p0.Hi]) #[iv p0.Lo,iv p0.Hi] hF hS kr ⟨kr⟩ kr (fun _=>⟨kr⟩) fun b1 w a hF hS=>?_)
 refine rn 1 2 [(1,iv p1),(2,iv p2),(3,pb b1)] hF fun a hF=>?_
 refine wfn rfl ?_
 refine esr ?_
 refine rno 18 [.run [] (Instr.loadAt 3 (pb b1)) (iv p0.Lo),.run [⟨11,true,(decide (p1≤p0.Lo))⟩] (Instr.loadAt 3 (pb b1)) (iv p0.Lo),.run [⟨11,true,(decide (p1≤p0.Lo))⟩] (Instr.loadAt 3 (.pointer (some ⟨b1,1,none⟩))) (iv p0.Hi),.run [⟨18,true,(bif (decide (p1≤p0.Lo)) then (decide (p0.Lo≤p0.Hi)) else false)⟩] (Instr.loadAt 3 (.pointer (some ⟨b1,1,none⟩))) (iv p0.Hi)] 18 [(6,.bool (bif (bif (decide (p1≤p0.Lo)) then (decide (p0.Lo≤p0.Hi)) else false) then (decide (p0.Hi≤p2)) else false))] hF (A0 (ob1 kr (fun _ hd=>(hS.at_ hd).cell (i:=0) (j:=0) rfl rfl)) (A0 (ob1 kr (fun _ hd=>(hS.at_ hd).cell (i:=0) (j:=0) rfl rfl)) (A0 (ob1 kr (fun _ hd=>(hS.at_ hd).cell (i:=0) (j:=1) rfl rfl)) (A0 (ob1 kr (fun _ hd=>(hS.at_ hd).cell (i:=0) (j:=1) rfl rfl)) Ab)))) fun a hF=>?_
 refine wfn rfl ?_
 refine wpIn_ret (Ah [.tmp 6] [.bool (bif (bif (decide (p1≤p0.Lo)) then (decide (p0.Lo≤p0.Hi)) else false) then (decide (p0.Hi≤p2)) else false)] hF rfl ⟨rfl,trivial⟩ ?_)
 subst h
 exact ⟨rfl,hS.ext⟩
theorem Kq (F:Nat) (p0:volume_note) (res:Int) (h:Dn F p0=some res) (μ:Frz) (w0:World) (hm:FrzAt μ w0):Calls Try.prog 107 #[.agg #[iv p0.time,.string p0.text]] w0 (fun e w=>e=.returned (iv res)∧Ext w0 w):=by
 obtain ⟨hlow,hS⟩:=hm.init
 have hext:=Frz.ext_refl w0.heap.size μ
 rw [Dn] at h
 refine Ap Try.func107 rfl 34 [(0,.agg #[iv p0.time,.string p0.text])] rfl rfl kr fun a w hw hF=>?_
 replace hS:=hS.cast hw
 clear hw
 refine esr ?_
 refine SK.wi (Fk (t:=116) (fun b1=>[(1,pb b1)]) (.agg #[iv p0.time,.string p0.text]) #[iv p0.time,.string p0.text] hF hS kr ⟨kr⟩ kr (fun _=>⟨kr⟩) fun b1 w a hF hS=>?_)
 refine rn 1 2 [(1,pb b1)] hF fun a hF=>?_
 refine wfn rfl ?_
 refine Ay ?_
 refine wpIn_block ?_
 refine esr ?_
 refine rno 9 [.run [] (Instr.loadAt 3 (pb b1)) (iv p0.time),.run [⟨9,false,(decide (p0.time<0))⟩] (Instr.loadAt 3 (pb b1)) (iv p0.time)] 9 [(1,pb b1),(5,.bool (bif (decide (p0.time<0)) then true else (decide (p0.time>4294967296))))] hF (A0 (ob1 kr (fun _ hd=>(hS.at_ hd).cell (i:=0) (j:=0) rfl rfl)) (A0 (ob1 kr (fun _ hd=>(hS.at_ hd).cell (i:=0) (j:=0) rfl rfl)) Ab)) fun a hF=>?_
 refine wfn rfl ?_
 refine Ar hF rfl (fun hc=>?_) (fun hc=>?_)
 ·replace h:=Am h hc
  refine esr ?_
  refine rn 1 1 [(2,iv 3)] hF fun a hF=>?_
  refine wfn rfl ?_
  refine wpIn_ret (Ak<|A8<|Ah [.tmp 2] [iv 3] hF rfl ⟨rfl,trivial⟩ ?_)
  have hr_:=Option.some.inj h
  subst hr_
  exact ⟨rfl,hS.ext⟩
 ·replace h:=Al h hc
  refine esr ?_
  refine rno 5 [.run [] (Instr.loadAt 9 (.pointer (some ⟨b1,1,none⟩))) (.string p0.text)] 5 [(1,pb b1),(14,.bool (decide (((p0.text.size:Nat):Int)>200)))] hF (A0 (ob1 kr (fun _ hd=>(hS.at_ hd).cell (i:=0) (j:=1) rfl rfl)) Ab) fun a hF=>?_
  refine wfn rfl ?_
  refine Ar hF rfl (fun hc=>?_) (fun hc=>?_)
  ·replace h:=Am h hc
   refine esr ?_
   refine rn 1 1 [(2,iv 8)] hF fun a hF=>?_
   refine wfn rfl ?_
   refine wpIn_ret (Ak<|A8<|Ah [.tmp 2] [iv 8] hF rfl ⟨rfl,trivial⟩ ?_)
   have hr_:=Option.some.inj h
   subst hr_
   exact ⟨rfl,hS.ext⟩
  ·replace h:=Al h hc
   refine wpIn_skip (Ac<|A1<|?_)
   refine Eg (fun a w=>Fr 34 [] [] a∧St w0 [blk b1 116 #[iv p0.time,.string p0.text],fz w0 μ] w∧G8=some res) ?_ ?_
   ·skip
    refine esr ?_
    refine rno 2 [.run [] (Instr.loadAt 9 (.pointer (some ⟨b1,1,none⟩))) (.string p0.text)] 2 [(20,.string p0.text)] hF (A0 (ob1 kr (fun _ hd=>(hS.at_ hd).cell (i:=0) (j:=1) rfl rfl)) Ab) fun a hF=>?_
    replace h:=A5 h
    obtain ⟨a0,a7,h⟩:=h
    refine SK.wi (Zu (src:=9) (dst:=23) 5 (fun a2 a3=>[(21,sv a2 a0 a3)]) hF hS kr ⟨kr⟩ kr kr kr a7 (fun _ _=>⟨kr⟩) fun a2 a3 w a hF hS=>?_)
    refine rn 2 5 [(21,sv a2 a0 a3),(22,iv (ln a0)),(23,iv 0)] hF fun a hF=>?_
    refine wfn rfl ?_
    refine wpIn_block ?_
    refine E4 (fun n_ a w=>∃(a1:Int),Fr 34 [] [(21,sv a2 a0 a3),(22,iv (ln a0)),(23,iv a1)] a∧St w0 [arrT 5 1 (fK .u8) a2 a0.length a3 a0,blk b1 116 #[iv p0.time,.string p0.text],fz w0 μ] w∧E3 a0 n_ a1=some res) F ⟨0,hF.sub kr,St.pick [0,1,2] (by decide) hS,h⟩ ?_
    rintro nk2 a w ⟨a1,hF,hS,h⟩
    rcases nk2 with _|nk2
    ·cases (show (none:Option Int)=some res from h)
    obtain ⟨k2,hk2⟩:∃k,k=E3 a0 nk2:=⟨_,rfl⟩
    replace h:G7 a0 k2 a1=some res:=by rw [hk2];exact h
    rw [G7] at h
    refine esr ?_
    refine rn 1 1 [(21,sv a2 a0 a3),(22,iv (ln a0)),(23,iv a1),(24,.bool (decide (a1<(ln a0))))] hF fun a hF=>?_
    refine wfn rfl ?_
    refine Ay ?_
    refine Ar hF rfl (fun hc=>?_) (fun hc=>?_)
    ·replace h:=Am h hc
     refine wpIn_skip (A1 ?_)
     refine Ay ?_
     refine wpIn_block ?_
     refine esr ?_
     replace h:=A5 h
     obtain ⟨a4,a6,h⟩:=h
     refine rno 3 [.run [] (Instr.indexAt 23 (sv a2 a0 a3) (iv a1)) (.pointer (some (An a2 a1 1))),.run [] (Instr.loadAt 5 (.pointer (some (An a2 a1 1)))) (.int .u8 a4)] 3 [(4,.int .u8 a4),(21,sv a2 a0 a3),(22,iv (ln a0)),(23,iv a1)] hF (A0 (Bi (hS.arrT_ (i:=0) rfl) kr (fun _=>a6)) (A0 (Fm (i:=a1) 0 (Cz .u8) (fun _ hd=>((hS.at_ hd).arrT_ (i:=0) rfl)) kr (fun _=>a6) rfl) Ab)) fun a hF=>?_
     refine wfn rfl ?_
     refine esr ?_
     refine rn 6 6 [(21,sv a2 a0 a3),(22,iv (ln a0)),(23,iv a1),(32,.bool (bif (decide (a4<32)) then true else (decide (a4>126))))] hF fun a hF=>?_
     refine wfn rfl ?_
     refine Ar hF rfl (fun hc=>?_) (fun hc=>?_)
     ·replace h:=Am h hc
      refine esr ?_
      refine rn 1 1 [(2,iv 7)] hF fun a hF=>?_
      refine wfn rfl ?_
      refine wpIn_ret (Ak<|A8<|A8<|Ak<|A8<|Ah [.tmp 2] [iv 7] hF rfl ⟨rfl,trivial⟩ ?_)
      have hr_:=Option.some.inj h
      subst hr_
      exact ⟨rfl,hS.ext⟩
     ·replace h:=Al h hc
      refine wpIn_skip (Ac<|A1<|?_)
      refine WI.region ?_
      replace h:=A5 h
      obtain ⟨a5,a8,h⟩:=h
      refine rno 2 [.run [] (binOp .add 3 (iv a1) (iv 1)) (iv a5)] 2 [(21,sv a2 a0 a3),(22,iv (ln a0)),(23,iv a5)] hF (A0 (Av (fun _=>a8)) Ab) fun a hF=>?_
      refine wfn rfl ?_
      rw [hk2] at h
      exact ⟨nk2,Nat.lt_succ_self _,a5,hF.sub kr,St.pick [0,1,2] (by decide) hS,h⟩
    ·replace h:=Al h hc
     refine wpIn_exit (Ad<|Ad<|B6<|A1 ?_)
     exact ⟨hF.sub kr,St.pick [1,2] (by decide) hS,h⟩
   rintro a w ⟨hF,hS,h⟩
   rw [G8] at h
   refine esr ?_
   refine rn 1 1 [(2,iv 0)] hF fun a hF=>?_
   refine wfn rfl ?_
   refine wpIn_ret (Ah [.tmp 2] [iv 0] hF rfl ⟨rfl,trivial⟩ ?_)
   have hr_:=Option.some.inj h
   subst hr_
   exact ⟨rfl,hS.ext⟩
theorem Au (F:Nat) (p0:volume_writer) (p1:(List Int)) (res:volume_writer) (h:As F p0 p1=some res) (μ:Frz) (w0 w1:World) (T_:List Res) (hlow:B4 w0 μ) {cb0:Nat} {ad1:Option Addr} {cap2:Nat} {ad3:Option Addr} {cap4:Nat} (hA5:ArrM μ 1 fI ad3 cap4 p1) (hS:St w0 (fz w0 μ::blk cb0 106 #[sv ad1 p0.b cap2]::arrT 5 1 (fK .u8) ad1 p0.b.length cap2 p0.b::T_) w1):Df Try.prog 43 #[pb cb0,sv ad3 p1 cap4] w1 (fun e w=>∃(ν_:Frz) (aQ:Option Addr) (aT:Nat),μ.ext w0.heap.size ν_∧B4 w0 ν_∧e=(.tuple #[])∧St w0 (fz w0 ν_::blk cb0 106 #[sv aQ res.b aT]::arrT 5 1 (fK .u8) aQ res.b.length aT res.b::T_) w):=by
 rw [As] at h
 have hext:=Frz.ext_refl w0.heap.size μ
 refine Ap Try.func43 rfl 42 [(0,pb cb0),(1,sv ad3 p1 cap4)] rfl rfl kr fun a w hw hF=>?_
 replace hS:=hS.cast hw
 clear hw
 refine esr ?_
 refine rn 3 3 [(0,pb cb0),(6,sv ad3 p1 cap4),(7,iv (ln p1)),(8,iv 0)] hF fun a hF=>?_
 refine wfn rfl ?_
 refine wpIn_block ?_
 refine E4 (fun n_ a w=>∃(a8:(List Int)) (a0:Int) (aG:Option Addr) (aH:Nat),Fr 42 [] [(0,pb cb0),(6,sv ad3 p1 cap4),(7,iv (ln p1)),(8,iv a0)] a∧St w0 (arrT 5 1 (fK .u8) aG a8.length aH a8::fz w0 μ::blk cb0 106 #[sv aG a8 aH]::T_) w∧Cx F p1 n_ a8 a0=some res) F ⟨p0.b,0,ad1,cap2,hF.sub kr,hS.s2,h⟩ ?_
 rintro nk1 a w ⟨a8,a0,aG,aH,hF,hS,h⟩
 rcases nk1 with _|nk1
 ·cases (show (none:Option volume_writer)=some res from h)
 obtain ⟨k1,hk1⟩:∃k,k=Cx F p1 nk1:=⟨_,rfl⟩
 replace h:El F p1 k1 a8 a0=some res:=by rw [hk1];exact h
 rw [El] at h
 refine esr ?_
 refine rn 1 1 [(0,pb cb0),(6,sv ad3 p1 cap4),(7,iv (ln p1)),(8,iv a0),(9,.bool (decide (a0<(ln p1))))] hF fun a hF=>?_
 refine wfn rfl ?_
 refine Ay ?_
 refine Ar hF rfl (fun hc=>?_) (fun hc=>?_)
 ·replace h:=Am h hc
  refine wpIn_skip (A1 ?_)
  refine Eg (fun a w=>∃(aF:(List Int)) (aK:Option Addr) (aL:Nat),Fr 42 [] [(0,pb cb0),(6,sv ad3 p1 cap4),(7,iv (ln p1)),(8,iv a0)] a∧St w0 (arrT 5 1 (fK .u8) aK aF.length aL aF::fz w0 μ::blk cb0 106 #[sv aK aF aL]::T_) w∧Eo a0 k1 aF=some res) ?_ ?_
  ·skip
   refine wpIn_block ?_
   refine esr ?_
   replace h:=A5 h
   obtain ⟨aN,aU,h⟩:=h
   refine rno 3 [.run [] (Instr.indexAt 51 (sv ad3 p1 cap4) (iv a0)) (.pointer (some (An ad3 a0 1))),.run [] (Instr.loadAt 3 (.pointer (some (An ad3 a0 1)))) (iv aN)] 3 [(0,pb cb0),(5,iv aN),(6,sv ad3 p1 cap4),(7,iv (ln p1)),(8,iv a0)] hF (A0 (Bi (hA5 _ (hS.frz (i:=1) rfl hlow)) kr (fun _=>aU)) (A0 (Fm (i:=a0) 0 Et (fun _ hd=>(hA5 _ ((hS.at_ hd).frz (i:=1) rfl hlow))) kr (fun _=>aU) rfl) Ab)) fun a hF=>?_
   refine wfn rfl ?_
   refine Eg (fun a w=>∃(a3:(List Int)) (aM:Int) (a9:Option Addr) (aC:Nat),Fr 42 [] [(0,pb cb0),(5,iv aM),(6,sv ad3 p1 cap4),(7,iv (ln p1)),(8,iv a0)] a∧St w0 (arrT 5 1 (fK .u8) a9 a3.length aC a3::fz w0 μ::blk cb0 106 #[sv a9 a3 aC]::T_) w∧Ep a0 k1 a3 aM=some res) ?_ ?_
   ·skip
    refine wpIn_block ?_
    refine E4 (fun n_ a w=>∃(a2:(List Int)) (a1:Int) (a6:Option Addr) (a7:Nat),Fr 42 [] [(0,pb cb0),(5,iv a1),(6,sv ad3 p1 cap4),(7,iv (ln p1)),(8,iv a0)] a∧St w0 (arrT 5 1 (fK .u8) a6 a2.length a7 a2::fz w0 μ::blk cb0 106 #[sv a6 a2 a7]::T_) w∧Cy a0 k1 n_ a2 a1=some res) F ⟨a8,aN,aG,aH,hF.sub kr,hS,h⟩ ?_
    rintro nk4 a w ⟨a2,a1,a6,a7,hF,hS,h⟩
    rcases nk4 with _|nk4
    ·cases (show (none:Option volume_writer)=some res from h)
    obtain ⟨k4,hk4⟩:∃k,k=Cy a0 k1 nk4:=⟨_,rfl⟩
    replace h:Em a0 k1 k4 a2 a1=some res:=by rw [hk4];exact h
    rw [Em] at h
    refine Ay ?_
    refine esr ?_
    refine rn 2 2 [(0,pb cb0),(5,iv a1),(6,sv ad3 p1 cap4),(7,iv (ln p1)),(8,iv a0),(13,.bool (decide (a1≥127)))] hF fun a hF=>?_
    refine wfn rfl ?_
    refine Ar hF rfl (fun hc=>?_) (fun hc=>?_)
    ·replace h:=Am h hc
     refine wpIn_skip (A1 ?_)
     refine Ay ?_
     refine wpIn_block ?_
     refine WI.region ?_
     replace h:=A5 h
     obtain ⟨aV,b0,h⟩:=h
     replace h:=A5 h
     obtain ⟨a5,b1,h⟩:=h
     refine rno 9 [.run [] (Instr.loadAt 23 (pb cb0)) (sv a6 a2 a7),.run [] (binOp .rem 3 (iv a1) (iv 127)) (iv aV),.run [] (binOp .add 3 (iv 128) (iv aV)) (iv a5),.run [] (convert 3 5 (iv a5)) (.int .u8 (IntKind.u8.wrap a5))] 9 [(0,pb cb0),(5,iv a1),(6,sv ad3 p1 cap4),(7,iv (ln p1)),(8,iv a0),(16,pb cb0),(20,sv a6 a2 a7),(24,.int .u8 (IntKind.u8.wrap a5))] hF (A0 (ob1 kr (fun _ hd=>(hS.at_ hd).cell (i:=2) (j:=0) rfl rfl)) (A0 (K8 (fun _=>b0)) (A0 (Av (fun _=>b1)) (A0 (Ce kr) Ab)))) fun a hF=>?_
     refine SK.wi (Fu (e:=5) (sz:=1) (f:=(fK .u8)) (t:=23) (len:=1) (fun aS=>[(0,pb cb0),(5,iv a1),(6,sv ad3 p1 cap4),(7,iv (ln p1)),(8,iv a0),(16,pb cb0),(20,sv a6 a2 a7),(25,sb aS 1)]) #[(0,.int .u8 (IntKind.u8.wrap a5))] #[.int .u8 (IntKind.u8.wrap a5)] ([IntKind.u8.wrap a5]) hF hS kr ⟨kr⟩ kr (Cz .u8) rfl rfl kr (fun _=>⟨kr⟩) fun aS w a hF hS=>?_)
     replace h:=A5 h
     obtain ⟨aJ,aX,h⟩:=h
     refine SK.wi (Rr (t:=23) (ty:=23) (bytes:=1) (l:=a2) (l':=([IntKind.u8.wrap a5])) (fun aB aE=>[(0,pb cb0),(5,iv a1),(6,sv ad3 p1 cap4),(7,iv (ln p1)),(8,iv a0),(16,pb cb0),(26,sv aB aJ aE)]) 1 hF hS rfl kr ⟨kr⟩ kr (hS.arr (i:=0) rfl) (fun _ _=>rfl) aX (fun _ _=>⟨kr⟩) fun aB aE w a hF hS=>?_)
     refine rn 2 13 [(0,pb cb0),(5,iv a1),(6,sv ad3 p1 cap4),(7,iv (ln p1)),(8,iv a0),(26,sv aB aJ aE),(28,pb cb0)] hF fun a hF=>?_
     refine SK.wi (Ao (t:=23) [(0,pb cb0),(5,iv a1),(6,sv ad3 p1 cap4),(7,iv (ln p1)),(8,iv a0)] 3 0 (sv aB aJ aE) #[sv aB aJ aE] hF hS rfl kr ⟨kr⟩ kr kr kr kr ⟨kr⟩ fun w a hF hS=>?_)
     refine WI.fin rfl (Ac<|A1<|?_)
     refine WI.region ?_
     replace h:=A5 h
     obtain ⟨aP,b2,h⟩:=h
     refine rno 3 [.run [] (binOp .quo 3 (iv a1) (iv 127)) (iv aP)] 3 [(0,pb cb0),(5,iv aP),(6,sv ad3 p1 cap4),(7,iv (ln p1)),(8,iv a0)] hF (A0 (Qy (fun _=>b2)) Ab) fun a hF=>?_
     refine wfn rfl ?_
     rw [hk4] at h
     exact ⟨nk4,Nat.lt_succ_self _,aJ,aP,aB,aE,hF.sub kr,hS.d0,h⟩
    ·replace h:=Al h hc
     refine wpIn_exit (Ad<|Ad<|B6<|A1 ?_)
     exact ⟨a2,a1,a6,a7,hF.sub kr,hS,h⟩
   rintro a w ⟨a3,aM,a9,aC,hF,hS,h⟩
   rw [Ep] at h
   refine WI.region ?_
   replace h:=A5 h
   obtain ⟨a4,aZ,h⟩:=h
   refine rno 8 [.run [] (Instr.loadAt 23 (pb cb0)) (sv a9 a3 aC),.run [] (binOp .add 3 (iv 1) (iv aM)) (iv a4),.run [] (convert 3 5 (iv a4)) (.int .u8 (IntKind.u8.wrap a4))] 8 [(0,pb cb0),(6,sv ad3 p1 cap4),(7,iv (ln p1)),(8,iv a0),(29,pb cb0),(33,sv a9 a3 aC),(36,.int .u8 (IntKind.u8.wrap a4))] hF (A0 (ob1 kr (fun _ hd=>(hS.at_ hd).cell (i:=2) (j:=0) rfl rfl)) (A0 (Av (fun _=>aZ)) (A0 (Ce kr) Ab))) fun a hF=>?_
   refine SK.wi (Fu (e:=5) (sz:=1) (f:=(fK .u8)) (t:=23) (len:=1) (fun aR=>[(0,pb cb0),(6,sv ad3 p1 cap4),(7,iv (ln p1)),(8,iv a0),(29,pb cb0),(33,sv a9 a3 aC),(37,sb aR 1)]) #[(0,.int .u8 (IntKind.u8.wrap a4))] #[.int .u8 (IntKind.u8.wrap a4)] ([IntKind.u8.wrap a4]) hF hS kr ⟨kr⟩ kr (Cz .u8) rfl rfl kr (fun _=>⟨kr⟩) fun aR w a hF hS=>?_)
   replace h:=A5 h
   obtain ⟨aI,aW,h⟩:=h
   refine SK.wi (Rr (t:=23) (ty:=23) (bytes:=1) (l:=a3) (l':=([IntKind.u8.wrap a4])) (fun aA aD=>[(0,pb cb0),(6,sv ad3 p1 cap4),(7,iv (ln p1)),(8,iv a0),(29,pb cb0),(38,sv aA aI aD)]) 1 hF hS rfl kr ⟨kr⟩ kr (hS.arr (i:=0) rfl) (fun _ _=>rfl) aW (fun _ _=>⟨kr⟩) fun aA aD w a hF hS=>?_)
   refine rn 2 12 [(0,pb cb0),(6,sv ad3 p1 cap4),(7,iv (ln p1)),(8,iv a0),(38,sv aA aI aD),(40,pb cb0)] hF fun a hF=>?_
   refine SK.wi (Ao (t:=23) [(0,pb cb0),(6,sv ad3 p1 cap4),(7,iv (ln p1)),(8,iv a0)] 3 0 (sv aA aI aD) #[sv aA aI aD] hF hS rfl kr ⟨kr⟩ kr kr kr kr ⟨kr⟩ fun w a hF hS=>?_)
   refine WI.fin rfl (Ac<|A1<|?_)
   exact ⟨aI,aA,aD,hF.sub kr,hS.d0,h⟩
  rintro a w ⟨aF,aK,aL,hF,hS,h⟩
  rw [Eo] at h
  refine WI.region ?_
  replace h:=A5 h
  obtain ⟨aO,aY,h⟩:=h
  refine rno 2 [.run [] (binOp .add 3 (iv a0) (iv 1)) (iv aO)] 2 [(0,pb cb0),(6,sv ad3 p1 cap4),(7,iv (ln p1)),(8,iv aO)] hF (A0 (Av (fun _=>aY)) Ab) fun a hF=>?_
  refine wfn rfl ?_
  rw [hk1] at h
  exact ⟨nk1,Nat.lt_succ_self _,aF,aO,aK,aL,hF.sub kr,hS,h⟩
 ·replace h:=Al h hc
  refine wpIn_exit (Ad<|Ad<|B6<|?_)
  refine Hh hF rfl ?_
  have hr_:=Option.some.inj h
  subst hr_
  replace hS:=hS.s2.s2
  exact ⟨_,rfl,μ,aG,aH,hext,hlow,rfl,hS⟩
theorem Li (x0:Bool) {b0:Nat} {w0 w:World} {H:List Res} (hS:St w0 (blk b0 4 #[.bool x0]::H) w):CallsDIn (F0 none) 0 Try.prog 45 #[pb b0] .returning w (fun e u_ w=>e=.returned (.tuple #[])∧settle u_=.returning∧St w0 (blk b0 4 #[.bool x0]::H) w):=by
 refine Jg Try.func45 rfl 9 [(0,pb b0)] [(0,pb b0),(4,.nilIface)] rfl rfl kr kr ⟨kr⟩ ⟨kr⟩ fun a hF=>?_
 refine rn 6 7 [(0,pb b0),(2,.bool false)] hF fun a hF=>?_
 refine wfn rfl ?_
 refine esr ?_
 refine rn 1 1 [(0,pb b0),(8,.bool false)] hF fun a hF=>?_
 refine wfn rfl ?_
 refine wpIn_cond_false (hF.get rfl) ?_
 refine wpIn_skip ?_
 refine Hh hF rfl ?_
 exact ⟨rfl,rfl,hS⟩
theorem Lj (x0:Bool) (z_:Int) {b0:Nat} {w0 w:World} {H:List Res} (hS:St w0 (blk b0 4 #[.bool x0]::H) w):CallsDIn (F0 none) 0 Try.prog 45 #[pb b0] (.panicking [{ v:=.iface 101 (iv z_),recovered:=false }]) w (fun e u_ w=>e=.returned (.tuple #[])∧settle u_=.returning∧St w0 (blk b0 4 #[.bool false]::H) w):=by
 refine Jg Try.func45 rfl 9 [(0,pb b0)] [(0,pb b0),(4,.iface 101 (iv z_))] rfl rfl kr kr ⟨kr⟩ ⟨kr⟩ fun a hF=>?_
 refine rn 6 7 [(0,pb b0),(2,.bool true)] hF fun a hF=>?_
 refine wfn rfl ?_
 refine esr ?_
 refine rn 1 1 [(0,pb b0),(8,.bool true)] hF fun a hF=>?_
 refine wfn rfl ?_
 refine wpIn_cond_true (hF.get rfl) ?_
 refine WI.region ?_
 refine SK.wi (Ao (t:=4) [] 0 0 (.bool false) #[.bool false] hF hS rfl kr ⟨kr⟩ kr kr kr kr ⟨kr⟩ fun w a hF hS=>?_)
 refine WI.fin rfl ?_
 refine Hh hF rfl ?_
 exact ⟨rfl,rfl,hS⟩
theorem Aj (F:Nat) (p0:volume_reader) (res:Except (Value×volume_reader) (Int×volume_reader)) (h:Ag F p0=some res) (μ:Frz) (w0 w1:World) (T_:List Res) (hlow:B4 w0 μ) {cb0:Nat} {ad1:Option Addr} {cap2:Nat} (hA3:ArrM μ 1 (fK .u8) ad1 cap2 p0.b) (hS:St w0 (fz w0 μ::blk cb0 98 #[sv ad1 p0.b cap2]::T_) w1):Mg Try.prog 46 #[pb cb0] w1 res (fun r_ e w=>∃(ν_:Frz) (aB:Option Addr) (aD:Nat),μ.ext w0.heap.size ν_∧B4 w0 ν_∧e=(iv r_.1)∧(ArrM ν_ 1 (fK .u8) aB aD r_.2.b)∧St w0 (fz w0 ν_::blk cb0 98 #[sv aB r_.2.b aD]::T_) w) (fun e_ w=>∃(ν_:Frz) (aC:Option Addr) (aE:Nat),μ.ext w0.heap.size ν_∧B4 w0 ν_∧(ArrM ν_ 1 (fK .u8) aC aE e_.b)∧St w0 (fz w0 ν_::blk cb0 98 #[sv aC e_.b aE]::T_) w):=by
 rw [Ag] at h
 have hext:=Frz.ext_refl w0.heap.size μ
 refine Ap Try.func46 rfl 71 [(0,pb cb0)] rfl rfl kr fun a w hw hF=>?_
 replace hS:=hS.cast hw
 clear hw
 refine esr ?_
 refine rn 1 1 [(0,pb cb0)] hF fun a hF=>?_
 refine wfn rfl ?_
 refine esr ?_
 refine rn 2 2 [(0,pb cb0),(3,iv 0),(4,iv 1)] hF fun a hF=>?_
 refine wfn rfl ?_
 refine Eg (fun a w=>Fr 71 [] [] a∧St w0 (fz w0 μ::blk cb0 98 #[sv ad1 p0.b cap2]::T_) w∧Ej p0=some res) ?_ ?_
 ·skip
  refine Ay ?_
  replace h:=A5 h
  obtain ⟨a0,aH,h⟩:=h
  have aF:ArrM μ 1 (fK .u8) (Aq ad1 cap2 (0:Int).toNat 1) (cap2-(0:Int).toNat) a0:=fun w_ hw_=>(hA3 w_ hw_).cutD (Cz .u8) aH
  refine Nl (obs:=[.run [] (Instr.loadAt 23 (pb cb0)) (sv ad1 p0.b cap2),.run [] (Instr.loadAt 23 (pb cb0)) (sv ad1 p0.b cap2),.run [] (Instr.sliceAt 23 (sv ad1 p0.b cap2) none (some (iv (if 8<(ln p0.b) then 8 else (ln p0.b)))) none) (.slice (Aq ad1 cap2 (0:Int).toNat 1) a0.length (cap2-(0:Int).toNat))]) 13 [(0,pb cb0),(3,iv 0),(4,iv 1),(17,.slice (Aq ad1 cap2 (0:Int).toNat 1) a0.length (cap2-(0:Int).toNat)),(18,iv (ln a0)),(19,iv 0)] kr hF kr (A0 (ob1 kr (fun _ hd=>(hS.later hd).cell (i:=1) (j:=0) rfl rfl)) (A0 (ob1 kr (fun _ hd=>(hS.later hd).cell (i:=1) (j:=0) rfl rfl)) (A0 (Se kr (hA3 _ (hS.frz (i:=0) rfl hlow)) (fun _=>aH)) Ab))) ⟨kr⟩ fun a w hF hx=>?_
  replace hS:=hS.later hx
  refine wfn rfl ?_
  refine wpIn_block ?_
  refine E4 (fun n_ a w=>∃(a1:Int) (a4:Int) (a2:Int),Fr 71 [] [(0,pb cb0),(3,iv a4),(4,iv a2),(17,.slice (Aq ad1 cap2 (0:Int).toNat 1) a0.length (cap2-(0:Int).toNat)),(18,iv (ln a0)),(19,iv a1)] a∧St w0 (fz w0 μ::blk cb0 98 #[sv ad1 p0.b cap2]::T_) w∧Bf p0 a0 n_ a1 a4 a2=some res) F ⟨0,0,1,hF.sub kr,hS,h⟩ ?_
  rintro nk2 a w ⟨a1,a4,a2,hF,hS,h⟩
  rcases nk2 with _|nk2
  ·cases (show (none:Option (Except (Value×volume_reader) (Int×volume_reader)))=some res from h)
  obtain ⟨k2,hk2⟩:∃k,k=Bf p0 a0 nk2:=⟨_,rfl⟩
  replace h:Ei p0 a0 k2 a1 a4 a2=some res:=by rw [hk2];exact h
  rw [Ei] at h
  refine esr ?_
  refine rn 1 1 [(0,pb cb0),(3,iv a4),(4,iv a2),(17,.slice (Aq ad1 cap2 (0:Int).toNat 1) a0.length (cap2-(0:Int).toNat)),(18,iv (ln a0)),(19,iv a1),(20,.bool (decide (a1<(ln a0))))] hF fun a hF=>?_
  refine wfn rfl ?_
  refine Ay ?_
  refine Ar hF rfl (fun hc=>?_) (fun hc=>?_)
  ·replace h:=Am h hc
   refine wpIn_skip (A1 ?_)
   refine Ay ?_
   refine wpIn_block ?_
   refine esr ?_
   replace h:=A5 h
   obtain ⟨a3,aI,h⟩:=h
   refine rno 5 [.run [] (Instr.indexAt 23 (.slice (Aq ad1 cap2 (0:Int).toNat 1) a0.length (cap2-(0:Int).toNat)) (iv a1)) (.pointer (some (An (Aq ad1 cap2 (0:Int).toNat 1) a1 1))),.run [] (Instr.loadAt 5 (.pointer (some (An (Aq ad1 cap2 (0:Int).toNat 1) a1 1)))) (.int .u8 a3)] 5 [(0,pb cb0),(3,iv a4),(4,iv a2),(5,iv a1),(6,.int .u8 a3),(17,.slice (Aq ad1 cap2 (0:Int).toNat 1) a0.length (cap2-(0:Int).toNat)),(18,iv (ln a0)),(19,iv a1)] hF (A0 (Bi (aF _ (hS.frz (i:=0) rfl hlow)) kr (fun _=>aI)) (A0 (Fm (i:=a1) 0 (Cz .u8) (fun _ hd=>(aF _ ((hS.at_ hd).frz (i:=0) rfl hlow))) kr (fun _=>aI) rfl) Ab)) fun a hF=>?_
   refine wfn rfl ?_
   refine Eg (fun a w=>Fr 71 [] [(0,pb cb0),(3,iv a4),(4,iv a2),(6,.int .u8 a3),(17,.slice (Aq ad1 cap2 (0:Int).toNat 1) a0.length (cap2-(0:Int).toNat)),(18,iv (ln a0)),(19,iv a1)] a∧St w0 (fz w0 μ::blk cb0 98 #[sv ad1 p0.b cap2]::T_) w∧Ek a1 a4 a2 k2 a3=some res) ?_ ?_
   ·skip
    refine wpIn_block ?_
    refine esr ?_
    refine rn 15 15 [(0,pb cb0),(3,iv a4),(4,iv a2),(5,iv a1),(6,.int .u8 a3),(17,.slice (Aq ad1 cap2 (0:Int).toNat 1) a0.length (cap2-(0:Int).toNat)),(18,iv (ln a0)),(19,iv a1),(24,.bool (bif (bif (a3==0) then true else (a3==255)) then true else (bif (a3==1) then (decide (a1>0)) else false)))] hF fun a hF=>?_
    refine wfn rfl ?_
    refine Ar hF rfl (fun hc=>?_) (fun hc=>?_)
    ·replace h:=Am h hc
     refine WI.region ?_
     refine rn 1 1 [(0,pb cb0),(3,iv a4),(4,iv a2),(6,.int .u8 a3),(17,.slice (Aq ad1 cap2 (0:Int).toNat 1) a0.length (cap2-(0:Int).toNat)),(18,iv (ln a0)),(19,iv a1),(39,.iface 101 (iv 7))] hF fun a hF=>?_
     refine Mr (t:=101) (v:=iv 7) hF ⟨kr⟩ (Ai<|A6<|Ai<|A6<|A6<|Ai<|A6<|Az hF ?_)
     have hr_:=Option.some.inj h
     subst hr_
     replace hS:=hS
     exact .inr ⟨_,rfl,rfl,μ,ad1,cap2,hext,hlow,hA3,hS⟩
    ·replace h:=Al h hc
     refine esr ?_
     refine rn 3 3 [(0,pb cb0),(3,iv a4),(4,iv a2),(5,iv a1),(6,.int .u8 a3),(17,.slice (Aq ad1 cap2 (0:Int).toNat 1) a0.length (cap2-(0:Int).toNat)),(18,iv (ln a0)),(19,iv a1),(40,.bool (decide (a3<128)))] hF fun a hF=>?_
     refine wfn rfl ?_
     refine Ar hF rfl (fun hc=>?_) (fun hc=>?_)
     ·replace h:=Am h hc
      refine esr ?_
      replace h:=A5 h
      obtain ⟨a5,aW,h⟩:=h
      replace h:=A5 h
      obtain ⟨a6,aG,h⟩:=h
      have aP:ArrM μ 1 (fK .u8) (Aq ad1 cap2 a5.toNat 1) (cap2-a5.toNat) a6:=fun w_ hw_=>(hA3 w_ hw_).cutD (Cz .u8) aG
      refine rno 10 [.run [] (Instr.loadAt 23 (pb cb0)) (sv ad1 p0.b cap2),.run [] (binOp .add 3 (iv a1) (iv 1)) (iv a5),.run [] (Instr.sliceAt 23 (sv ad1 p0.b cap2) (some (iv a5)) none none) (.slice (Aq ad1 cap2 a5.toNat 1) a6.length (cap2-a5.toNat))] 10 [(3,iv a4),(4,iv a2),(6,.int .u8 a3),(50,.slice (Aq ad1 cap2 a5.toNat 1) a6.length (cap2-a5.toNat)),(52,pb cb0)] hF (A0 (ob1 kr (fun _ hd=>(hS.at_ hd).cell (i:=1) (j:=0) rfl rfl)) (A0 (Av (fun _=>aW)) (A0 (Ly kr (hA3 _ (hS.frz (i:=0) rfl hlow)) (fun _=>aG)) Ab))) fun a hF=>?_
      refine SK.wi (Ao (t:=23) [(3,iv a4),(4,iv a2),(6,.int .u8 a3)] 1 0 (.slice (Aq ad1 cap2 a5.toNat 1) a6.length (cap2-a5.toNat)) #[.slice (Aq ad1 cap2 a5.toNat 1) a6.length (cap2-a5.toNat)] hF hS rfl kr ⟨kr⟩ kr kr kr kr ⟨kr⟩ fun w a hF hS=>?_)
      refine wfn rfl ?_
      refine esr ?_
      replace h:=A5 h
      obtain ⟨aM,aX,h⟩:=h
      replace h:=A5 h
      obtain ⟨aN,aY,h⟩:=h
      replace h:=A5 h
      obtain ⟨aO,aZ,h⟩:=h
      replace h:=A5 h
      obtain ⟨aA,b0,h⟩:=h
      refine rno 8 [.run [] (convert 5 3 (.int .u8 a3)) (iv aM),.run [] (binOp .sub 3 (iv aM) (iv 1)) (iv aN),.run [] (binOp .mul 3 (iv aN) (iv a2)) (iv aO),.run [] (binOp .add 3 (iv a4) (iv aO)) (iv aA)] 8 [(2,iv aA)] hF (A0 (Hd kr kr (fun _=>aX)) (A0 (K9 (fun _=>aY)) (A0 (Jm (fun _=>aZ)) (A0 (Av (fun _=>b0)) Ab)))) fun a hF=>?_
      refine wfn rfl ?_
      refine wpIn_ret (Ak<|A8<|Ak<|A8<|A8<|Ak<|A8<|Ah [.tmp 2] [iv aA] hF rfl ⟨rfl,trivial⟩ ?_)
      have hr_:=Option.some.inj h
      subst hr_
      replace hS:=hS
      exact .inl ⟨_,_,rfl,rfl,μ,(Aq ad1 cap2 a5.toNat 1),(cap2-a5.toNat),hext,hlow,rfl,aP,hS⟩
     ·replace h:=Al h hc
      refine wpIn_skip (Ac<|A1<|?_)
      exact ⟨hF.sub kr,hS,h⟩
   rintro a w ⟨hF,hS,h⟩
   rw [Ek] at h
   refine esr ?_
   replace h:=A5 h
   obtain ⟨aJ,aQ,h⟩:=h
   replace h:=A5 h
   obtain ⟨aK,aR,h⟩:=h
   replace h:=A5 h
   obtain ⟨aL,aS,h⟩:=h
   replace h:=A5 h
   obtain ⟨a7,aT,h⟩:=h
   refine rno 8 [.run [] (convert 5 3 (.int .u8 a3)) (iv aJ),.run [] (binOp .sub 3 (iv aJ) (iv 128)) (iv aK),.run [] (binOp .mul 3 (iv aK) (iv a2)) (iv aL),.run [] (binOp .add 3 (iv a4) (iv aL)) (iv a7)] 8 [(0,pb cb0),(3,iv a7),(4,iv a2),(17,.slice (Aq ad1 cap2 (0:Int).toNat 1) a0.length (cap2-(0:Int).toNat)),(18,iv (ln a0)),(19,iv a1)] hF (A0 (Hd kr kr (fun _=>aQ)) (A0 (K9 (fun _=>aR)) (A0 (Jm (fun _=>aS)) (A0 (Av (fun _=>aT)) Ab)))) fun a hF=>?_
   refine wfn rfl ?_
   refine WI.region ?_
   replace h:=A5 h
   obtain ⟨a8,aU,h⟩:=h
   refine rno 3 [.run [] (binOp .mul 3 (iv a2) (iv 127)) (iv a8)] 3 [(0,pb cb0),(3,iv a7),(4,iv a8),(17,.slice (Aq ad1 cap2 (0:Int).toNat 1) a0.length (cap2-(0:Int).toNat)),(18,iv (ln a0)),(19,iv a1)] hF (A0 (Jm (fun _=>aU)) Ab) fun a hF=>?_
   refine WI.fin rfl (Ac<|A1<|?_)
   refine WI.region ?_
   replace h:=A5 h
   obtain ⟨a9,aV,h⟩:=h
   refine rno 2 [.run [] (binOp .add 3 (iv a1) (iv 1)) (iv a9)] 2 [(0,pb cb0),(3,iv a7),(4,iv a8),(17,.slice (Aq ad1 cap2 (0:Int).toNat 1) a0.length (cap2-(0:Int).toNat)),(18,iv (ln a0)),(19,iv a9)] hF (A0 (Av (fun _=>aV)) Ab) fun a hF=>?_
   refine wfn rfl ?_
   rw [hk2] at h
   exact ⟨nk2,Nat.lt_succ_self _,a9,a7,a8,hF.sub kr,hS,h⟩
  ·replace h:=Al h hc
   refine wpIn_exit (Ad<|Ad<|B6<|A1 ?_)
   exact ⟨hF.sub kr,hS,h⟩
 rintro a w ⟨hF,hS,h⟩
 rw [Ej] at h
 refine WI.region ?_
 refine rn 1 1 [(70,.iface 101 (iv 7))] hF fun a hF=>?_
 refine Mr (t:=101) (v:=iv 7) hF ⟨kr⟩ (Az hF ?_)
 have hr_:=Option.some.inj h
 subst hr_
 replace hS:=hS
 exact .inr ⟨_,rfl,rfl,μ,ad1,cap2,hext,hlow,hA3,hS⟩
theorem Ln (F:Nat) (p0:Int) (res:Except Value Unit) (h:Gt F p0=some res) (μ:Frz) (w0:World) (hm:FrzAt μ w0):X8 Try.prog 42 #[iv p0] w0 res (fun r_ e w=>e=(.tuple #[])∧Ext w0 w) (Ext w0):=by
 obtain ⟨hlow,hS⟩:=hm.init
 have hext:=Frz.ext_refl w0.heap.size μ
 rw [Gt] at h
 refine Ap Try.func42 rfl 5 [(0,iv p0)] rfl rfl kr fun a w hw hF=>?_
 replace hS:=hS.cast hw
 clear hw
 refine esr ?_
 refine rn 2 2 [(3,.bool (p0 != 0))] hF fun a hF=>?_
 refine wfn rfl ?_
 refine Ar hF rfl (fun hc=>?_) (fun hc=>?_)
 ·replace h:=Am h hc
  refine WI.region ?_
  refine rn 1 1 [(4,.iface 101 (iv 7))] hF fun a hF=>?_
  refine Mr (t:=101) (v:=iv 7) hF ⟨kr⟩ (Az hF ?_)
  have hr_:=Option.some.inj h
  subst hr_
  exact .inr ⟨_,rfl,rfl,hS.ext⟩
 ·replace h:=Al h hc
  refine wpIn_skip ?_
  refine Hh hF rfl ?_
  have hr_:=Option.some.inj h
  subst hr_
  exact .inl ⟨_,_,rfl,rfl,rfl,hS.ext⟩
theorem Ny (p0:volume_sweep) (res:ByteArray) (h:Bm p0=res) (μ:Frz) (w0:World) (hm:FrzAt μ w0) {ad1:Option Addr} {cap2:Nat} {css3:List (List Value)} (hA4:ArrQ μ 1 Rp83 ad1 cap2 css3 p0.Sweep.Rays):Calls Try.prog 87 #[.agg #[.string p0.Sweep.Site.Name,iv p0.Sweep.Site.X,iv p0.Sweep.Site.Y,iv p0.Sweep.Site.Z,iv p0.Sweep.Site.Rose,iv p0.Sweep.Site.Gates,iv p0.Sweep.Site.Step,iv p0.Sweep.Site.Width,iv p0.Sweep.Tilt,iv p0.Sweep.Time,sv ad1 p0.Sweep.Rays cap2]] w0 (fun e w=>e=.returned (.string res)∧Ext w0 w):=by
 obtain ⟨hlow,hS⟩:=hm.init
 have hext:=Frz.ext_refl w0.heap.size μ
 rw [Bm] at h
 refine Ap Try.func87 rfl 7 [(0,.agg #[.string p0.Sweep.Site.Name,iv p0.Sweep.Site.X,iv p0.Sweep.Site.Y,iv p0.Sweep.Site.Z,iv p0.Sweep.Site.Rose,iv p0.Sweep.Site.Gates,iv p0.Sweep.Site.Step,iv p0.Sweep.Site.Width,iv p0.Sweep.Tilt,iv p0.Sweep.Time,sv ad1 p0.Sweep.Rays cap2])] rfl rfl kr fun a w hw hF=>?_
 replace hS:=hS.cast hw
 clear hw
 refine esr ?_
 refine SK.wi (Fk (t:=112) (fun b5=>[(1,pb b5)]) (.agg #[.string p0.Sweep.Site.Name,iv p0.Sweep.Site.X,iv p0.Sweep.Site.Y,iv p0.Sweep.Site.Z,iv p0.Sweep.Site.Rose,iv p0.Sweep.Site.Gates,iv p0.Sweep.Site.Step,iv p0.Sweep.Site.Width,iv p0.Sweep.Tilt,iv p0.Sweep.Time,sv ad1 p0.Sweep.Rays cap2]) #[.string p0.Sweep.Site.Name,iv p0.Sweep.Site.X,iv p0.Sweep.Site.Y,iv p0.Sweep.Site.Z,iv p0.Sweep.Site.Rose,iv p0.Sweep.Site.Gates,iv p0.Sweep.Site.Step,iv p0.Sweep.Site.Width,iv p0.Sweep.Tilt,iv p0.Sweep.Time,sv ad1 p0.Sweep.Rays cap2] hF hS kr ⟨kr⟩ kr (fun _=>⟨kr⟩) fun b5 w a hF hS=>?_)
 refine rn 1 2 [(1,pb b5)] hF fun a hF=>?_
 refine wfn rfl ?_
 refine esr ?_
 refine rno 5 [.run [] (Instr.loadAt 9 (pb b5)) (.string p0.Sweep.Site.Name)] 5 [(2,.string p0.Sweep.Site.Name)] hF (A0 (ob1 kr (fun _ hd=>(hS.at_ hd).cell (i:=0) (j:=0) rfl rfl)) Ab) fun a hF=>?_
 refine wfn rfl ?_
 refine wpIn_ret (Ah [.tmp 2] [.string p0.Sweep.Site.Name] hF rfl ⟨rfl,trivial⟩ ?_)
 subst h
 exact ⟨rfl,hS.ext⟩
theorem Ks (p0:volume_sweep) (res:Int) (h:Bn p0=res) (μ:Frz) (w0:World) (hm:FrzAt μ w0) {ad1:Option Addr} {cap2:Nat} {css3:List (List Value)} (hA4:ArrQ μ 1 Rp83 ad1 cap2 css3 p0.Sweep.Rays):Calls Try.prog 88 #[.agg #[.string p0.Sweep.Site.Name,iv p0.Sweep.Site.X,iv p0.Sweep.Site.Y,iv p0.Sweep.Site.Z,iv p0.Sweep.Site.Rose,iv p0.Sweep.Site.Gates,iv p0.Sweep.Site.Step,iv p0.Sweep.Site.Width,iv p0.Sweep.Tilt,iv p0.Sweep.Time,sv ad1 p0.Sweep.Rays cap2]] w0 (fun e w=>e=.returned (iv res)∧Ext w0 w):=by
 obtain ⟨hlow,hS⟩:=hm.init
 have hext:=Frz.ext_refl w0.heap.size μ
 rw [Bn] at h
 refine Ap Try.func88 rfl 6 [(0,.agg #[.string p0.Sweep.Site.Name,iv p0.Sweep.Site.X,iv p0.Sweep.Site.Y,iv p0.Sweep.Site.Z,iv p0.Sweep.Site.Rose,iv p0.Sweep.Site.Gates,iv p0.Sweep.Site.Step,iv p0.Sweep.Site.Width,iv p0.Sweep.Tilt,iv p0.Sweep.Time,sv ad1 p0.Sweep.Rays cap2])] rfl rfl kr fun a w hw hF=>?_
 replace hS:=hS.cast hw
 clear hw
 refine esr ?_
 refine SK.wi (Fk (t:=112) (fun b5=>[(1,pb b5)]) (.agg #[.string p0.Sweep.Site.Name,iv p0.Sweep.Site.X,iv p0.Sweep.Site.Y,iv p0.Sweep.Site.Z,iv p0.Sweep.Site.Rose,iv p0.Sweep.Site.Gates,iv p0.Sweep.Site.Step,iv p0.Sweep.Site.Width,iv p0.Sweep.Tilt,iv p0.Sweep.Time,sv ad1 p0.Sweep.Rays cap2]) #[.string p0.Sweep.Site.Name,iv p0.Sweep.Site.X,iv p0.Sweep.Site.Y,iv p0.Sweep.Site.Z,iv p0.Sweep.Site.Rose,iv p0.Sweep.Site.Gates,iv p0.Sweep.Site.Step,iv p0.Sweep.Site.Width,iv p0.Sweep.Tilt,iv p0.Sweep.Time,sv ad1 p0.Sweep.Rays cap2] hF hS kr ⟨kr⟩ kr (fun _=>⟨kr⟩) fun b5 w a hF hS=>?_)
 refine rn 1 2 [(1,pb b5)] hF fun a hF=>?_
 refine wfn rfl ?_
 refine esr ?_
 refine rno 4 [.run [] (Instr.loadAt 3 (.pointer (some ⟨b5,9,none⟩))) (iv p0.Sweep.Time)] 4 [(2,iv p0.Sweep.Time)] hF (A0 (ob1 kr (fun _ hd=>(hS.at_ hd).cell (i:=0) (j:=9) rfl rfl)) Ab) fun a hF=>?_
 refine wfn rfl ?_
 refine wpIn_ret (Ah [.tmp 2] [iv p0.Sweep.Time] hF rfl ⟨rfl,trivial⟩ ?_)
 subst h
 exact ⟨rfl,hS.ext⟩
theorem Nw (p0:volume_field) (res:ByteArray) (h:Bk p0=res) (μ:Frz) (w0:World) (hm:FrzAt μ w0) {ad1:Option Addr} {cap2:Nat} (hA3:ArrM μ 2 api_Span.cells ad1 cap2 p0.Field.Vals):Calls Try.prog 101 #[.agg #[.string p0.key,iv p0.time,iv p0.Field.Grid.X,iv p0.Field.Grid.Y,iv p0.Field.Grid.Size,iv p0.Field.Grid.Wide,iv p0.Field.Grid.High,sv ad1 p0.Field.Vals cap2]] w0 (fun e w=>e=.returned (.string res)∧Ext w0 w):=by
 obtain ⟨hlow,hS⟩:=hm.init
 have hext:=Frz.ext_refl w0.heap.size μ
 rw [Bk] at h
 refine Ap Try.func101 rfl 5 [(0,.agg #[.string p0.key,iv p0.time,iv p0.Field.Grid.X,iv p0.Field.Grid.Y,iv p0.Field.Grid.Size,iv p0.Field.Grid.Wide,iv p0.Field.Grid.High,sv ad1 p0.Field.Vals cap2])] rfl rfl kr fun a w hw hF=>?_
 replace hS:=hS.cast hw
 clear hw
 refine esr ?_
 refine SK.wi (Fk (t:=114) (fun b4=>[(1,pb b4)]) (.agg #[.string p0.key,iv p0.time,iv p0.Field.Grid.X,iv p0.Field.Grid.Y,iv p0.Field.Grid.Size,iv p0.Field.Grid.Wide,iv p0.Field.Grid.High,sv ad1 p0.Field.Vals cap2]) #[.string p0.key,iv p0.time,iv p0.Field.Grid.X,iv p0.Field.Grid.Y,iv p0.Field.Grid.Size,iv p0.Field.Grid.Wide,iv p0.Field.Grid.High,sv ad1 p0.Field.Vals cap2] hF hS kr ⟨kr⟩ kr (fun _=>⟨kr⟩) fun b4 w a hF hS=>?_)
 refine rn 1 2 [(1,pb b4)] hF fun a hF=>?_
 refine wfn rfl ?_
 refine esr ?_
 refine rno 3 [.run [] (Instr.loadAt 9 (pb b4)) (.string p0.key)] 3 [(2,.string p0.key)] hF (A0 (ob1 kr (fun _ hd=>(hS.at_ hd).cell (i:=0) (j:=0) rfl rfl)) Ab) fun a hF=>?_
 refine wfn rfl ?_
 refine wpIn_ret (Ah [.tmp 2] [.string p0.key] hF rfl ⟨rfl,trivial⟩ ?_)
 subst h
 exact ⟨rfl,hS.ext⟩
theorem Kp (p0:volume_field) (res:Int) (h:Bl p0=res) (μ:Frz) (w0:World) (hm:FrzAt μ w0) {ad1:Option Addr} {cap2:Nat} (hA3:ArrM μ 2 api_Span.cells ad1 cap2 p0.Field.Vals):Calls Try.prog 102 #[.agg #[.string p0.key,iv p0.time,iv p0.Field.Grid.X,iv p0.Field.Grid.Y,iv p0.Field.Grid.Size,iv p0.Field.Grid.Wide,iv p0.Field.Grid.High,sv ad1 p0.Field.Vals cap2]] w0 (fun e w=>e=.returned (iv res)∧Ext w0 w):=by
 obtain ⟨hlow,hS⟩:=hm.init
 have hext:=Frz.ext_refl w0.heap.size μ
 rw [Bl] at h
 refine Ap Try.func102 rfl 5 [(0,.agg #[.string p0.key,iv p0.time,iv p0.Field.Grid.X,iv p0.Field.Grid.Y,iv p0.Field.Grid.Size,iv p0.Field.Grid.Wide,iv p0.Field.Grid.High,sv ad1 p0.Field.Vals cap2])] rfl rfl kr fun a w hw hF=>?_
 replace hS:=hS.cast hw
 clear hw
 refine esr ?_
 refine SK.wi (Fk (t:=114) (fun b4=>[(1,pb b4)]) (.agg #[.string p0.key,iv p0.time,iv p0.Field.Grid.X,iv p0.Field.Grid.Y,iv p0.Field.Grid.Size,iv p0.Field.Grid.Wide,iv p0.Field.Grid.High,sv ad1 p0.Field.Vals cap2]) #[.string p0.key,iv p0.time,iv p0.Field.Grid.X,iv p0.Field.Grid.Y,iv p0.Field.Grid.Size,iv p0.Field.Grid.Wide,iv p0.Field.Grid.High,sv ad1 p0.Field.Vals cap2] hF hS kr ⟨kr⟩ kr (fun _=>⟨kr⟩) fun b4 w a hF hS=>?_)
 refine rn 1 2 [(1,pb b4)] hF fun a hF=>?_
 refine wfn rfl ?_
 refine esr ?_
 refine rno 3 [.run [] (Instr.loadAt 3 (.pointer (some ⟨b4,1,none⟩))) (iv p0.time)] 3 [(2,iv p0.time)] hF (A0 (ob1 kr (fun _ hd=>(hS.at_ hd).cell (i:=0) (j:=1) rfl rfl)) Ab) fun a hF=>?_
 refine wfn rfl ?_
 refine wpIn_ret (Ah [.tmp 2] [iv p0.time] hF rfl ⟨rfl,trivial⟩ ?_)
 subst h
 exact ⟨rfl,hS.ext⟩
theorem Pd (p0:volume_note) (res:ByteArray) (h:Bt p0=res) (μ:Frz) (w0:World) (hm:FrzAt μ w0):Calls Try.prog 109 #[.agg #[iv p0.time,.string p0.text]] w0 (fun e w=>e=.returned (.string res)∧Ext w0 w):=by
 obtain ⟨hlow,hS⟩:=hm.init
 have hext:=Frz.ext_refl w0.heap.size μ
 rw [Bt] at h
 refine Ap Try.func109 rfl 3 [(0,.agg #[iv p0.time,.string p0.text])] rfl rfl kr fun a w hw hF=>?_
 replace hS:=hS.cast hw
 clear hw
 refine esr ?_
 refine SK.wi (Fk (t:=116) (fun b1=>[]) (.agg #[iv p0.time,.string p0.text]) #[iv p0.time,.string p0.text] hF hS kr ⟨kr⟩ kr (fun _=>⟨kr⟩) fun b1 w a hF hS=>?_)
 refine rn 1 2 [] hF fun a hF=>?_
 refine wfn rfl ?_
 refine esr ?_
 refine rn 1 1 [(2,.string (⟨#[]⟩:ByteArray))] hF fun a hF=>?_
 refine wfn rfl ?_
 refine wpIn_ret (Ah [.tmp 2] [.string (⟨#[]⟩:ByteArray)] hF rfl ⟨rfl,trivial⟩ ?_)
 subst h
 exact ⟨rfl,hS.ext⟩
theorem Kz (p0:volume_note) (res:Int) (h:Bu p0=res) (μ:Frz) (w0:World) (hm:FrzAt μ w0):Calls Try.prog 110 #[.agg #[iv p0.time,.string p0.text]] w0 (fun e w=>e=.returned (iv res)∧Ext w0 w):=by
 obtain ⟨hlow,hS⟩:=hm.init
 have hext:=Frz.ext_refl w0.heap.size μ
 rw [Bu] at h
 refine Ap Try.func110 rfl 5 [(0,.agg #[iv p0.time,.string p0.text])] rfl rfl kr fun a w hw hF=>?_
 replace hS:=hS.cast hw
 clear hw
 refine esr ?_
 refine SK.wi (Fk (t:=116) (fun b1=>[(1,pb b1)]) (.agg #[iv p0.time,.string p0.text]) #[iv p0.time,.string p0.text] hF hS kr ⟨kr⟩ kr (fun _=>⟨kr⟩) fun b1 w a hF hS=>?_)
 refine rn 1 2 [(1,pb b1)] hF fun a hF=>?_
 refine wfn rfl ?_
 refine esr ?_
 refine rno 3 [.run [] (Instr.loadAt 3 (pb b1)) (iv p0.time)] 3 [(2,iv p0.time)] hF (A0 (ob1 kr (fun _ hd=>(hS.at_ hd).cell (i:=0) (j:=0) rfl rfl)) Ab) fun a hF=>?_
 refine wfn rfl ?_
 refine wpIn_ret (Ah [.tmp 2] [iv p0.time] hF rfl ⟨rfl,trivial⟩ ?_)
 subst h
 exact ⟨rfl,hS.ext⟩
end Go.Proofs.Ytifbomimeodibaa
