import Derived.Test.YtifbomimeodibaaV4XD
import Derived.Test.YtifbomimeodibaaProg
import Derived.Test.YtifbomimeodibaaV4XW0
import Derived.Test.YtifbomimeodibaaV4WnN
namespace Go.Proofs.Ytifbomimeodibaa
open Go Go.RowKit Go.Eng
set_option maxRecDepth 10000
set_option maxHeartbeats 4000000
set_option linter.unusedVariables false
set_option linter.unusedSimpArgs false
theorem Le (p0:volume_sweep) (res:volume_Item) (h:A3 p0=res) (μ:Frz) (w0:World) (hm:FrzAt μ w0) {ad1:Option Addr} {cap2:Nat} {css3:List (List Value)} (hA4:ArrQ μ 1 Rp83 ad1 cap2 css3 p0.Sweep.Rays):Dd Try.prog 86 #[.agg #[.string p0.Sweep.Site.Name,iv p0.Sweep.Site.X,iv p0.Sweep.Site.Y,iv p0.Sweep.Site.Z,iv p0.Sweep.Site.Rose,iv p0.Sweep.Site.Gates,iv p0.Sweep.Site.Step,iv p0.Sweep.Site.Width,iv p0.Sweep.Tilt,iv p0.Sweep.Time,sv ad1 p0.Sweep.Rays cap2]] w0 (fun e w=>∃(ν_:Frz) (ad7:Option Addr) (cap8:Nat) (css9:List (List Value)) (a0:Option Addr) (a1:Nat),μ.ext w0.heap.size ν_∧e=(.agg #[iv res.Kind,.string res.Name,iv res.Time,.string res.Sweep.Site.Name,iv res.Sweep.Site.X,iv res.Sweep.Site.Y,iv res.Sweep.Site.Z,iv res.Sweep.Site.Rose,iv res.Sweep.Site.Gates,iv res.Sweep.Site.Step,iv res.Sweep.Site.Width,iv res.Sweep.Tilt,iv res.Sweep.Time,sv ad7 res.Sweep.Rays cap8,iv res.Field.Grid.X,iv res.Field.Grid.Y,iv res.Field.Grid.Size,iv res.Field.Grid.Wide,iv res.Field.Grid.High,sv a0 res.Field.Vals a1,.string res.Text])∧ArrQ ν_ 1 Rp83 ad7 cap8 css9 res.Sweep.Rays∧ArrM ν_ 2 api_Span.cells a0 a1 res.Field.Vals∧St w0 [fz w0 ν_] w):=by
 obtain ⟨hlow,hS⟩:=hm.init
 have hext:=Frz.ext_refl w0.heap.size μ
 rw [A3] at h
 refine Aq Try.func86 rfl 6 [(0,.agg #[.string p0.Sweep.Site.Name,iv p0.Sweep.Site.X,iv p0.Sweep.Site.Y,iv p0.Sweep.Site.Z,iv p0.Sweep.Site.Rose,iv p0.Sweep.Site.Gates,iv p0.Sweep.Site.Step,iv p0.Sweep.Site.Width,iv p0.Sweep.Tilt,iv p0.Sweep.Time,sv ad1 p0.Sweep.Rays cap2])] rfl rfl kr fun a w hw hF=>?_
 replace hS:=hS.cast hw
 clear hw
 refine esr ?_
 refine SK.wi (H4 (t:=112) (fun b5=>[(1,pb b5)]) (.agg #[.string p0.Sweep.Site.Name,iv p0.Sweep.Site.X,iv p0.Sweep.Site.Y,iv p0.Sweep.Site.Z,iv p0.Sweep.Site.Rose,iv p0.Sweep.Site.Gates,iv p0.Sweep.Site.Step,iv p0.Sweep.Site.Width,iv p0.Sweep.Tilt,iv p0.Sweep.Time,sv ad1 p0.Sweep.Rays cap2]) #[.string p0.Sweep.Site.Name,iv p0.Sweep.Site.X,iv p0.Sweep.Site.Y,iv p0.Sweep.Site.Z,iv p0.Sweep.Site.Rose,iv p0.Sweep.Site.Gates,iv p0.Sweep.Site.Step,iv p0.Sweep.Site.Width,iv p0.Sweep.Tilt,iv p0.Sweep.Time,sv ad1 p0.Sweep.Rays cap2] hF hS kr ⟨kr⟩ kr (fun _=>⟨kr⟩) fun b5 w a hF hS=>?_)
 refine SK.wi (Bs (t:=46) (fun b6=>[(1,pb b5),(2,pb b6)]) #[iv 0,.string ByteArray.empty,iv 0,.string ByteArray.empty,iv 0,iv 0,iv 0,iv 0,iv 0,iv 0,iv 0,iv 0,iv 0,.slice none 0 0,iv 0,iv 0,iv 0,iv 0,iv 0,.slice none 0 0,.string ByteArray.empty] hF hS kr ⟨kr⟩ kr (fun _=>⟨kr⟩) fun b6 w a hF hS=>?_)
 refine wfn rfl ?_
 refine esr ?_
 refine rno 3 [.run [] (Instr.loadAt 39 (pb b5)) (.agg #[.string p0.Sweep.Site.Name,iv p0.Sweep.Site.X,iv p0.Sweep.Site.Y,iv p0.Sweep.Site.Z,iv p0.Sweep.Site.Rose,iv p0.Sweep.Site.Gates,iv p0.Sweep.Site.Step,iv p0.Sweep.Site.Width,iv p0.Sweep.Tilt,iv p0.Sweep.Time,sv ad1 p0.Sweep.Rays cap2])] 3 [(2,pb b6),(5,.agg #[iv 1,.string ByteArray.empty,iv 0,.string p0.Sweep.Site.Name,iv p0.Sweep.Site.X,iv p0.Sweep.Site.Y,iv p0.Sweep.Site.Z,iv p0.Sweep.Site.Rose,iv p0.Sweep.Site.Gates,iv p0.Sweep.Site.Step,iv p0.Sweep.Site.Width,iv p0.Sweep.Tilt,iv p0.Sweep.Time,sv ad1 p0.Sweep.Rays cap2,iv 0,iv 0,iv 0,iv 0,iv 0,.slice none 0 0,.string ByteArray.empty])] hF (A0 (obN (us:=[.string p0.Sweep.Site.Name,iv p0.Sweep.Site.X,iv p0.Sweep.Site.Y,iv p0.Sweep.Site.Z,iv p0.Sweep.Site.Rose,iv p0.Sweep.Site.Gates,iv p0.Sweep.Site.Step,iv p0.Sweep.Site.Width,iv p0.Sweep.Tilt,iv p0.Sweep.Time,sv ad1 p0.Sweep.Rays cap2]) kr (fun _ hd=>((hS.at_ hd).blk (i:=1) rfl).cells rfl)) Aa) fun a hF=>?_
 refine SK.wi (Ap (t:=46) [(2,pb b6)] 0 0 (.agg #[iv 1,.string ByteArray.empty,iv 0,.string p0.Sweep.Site.Name,iv p0.Sweep.Site.X,iv p0.Sweep.Site.Y,iv p0.Sweep.Site.Z,iv p0.Sweep.Site.Rose,iv p0.Sweep.Site.Gates,iv p0.Sweep.Site.Step,iv p0.Sweep.Site.Width,iv p0.Sweep.Tilt,iv p0.Sweep.Time,sv ad1 p0.Sweep.Rays cap2,iv 0,iv 0,iv 0,iv 0,iv 0,.slice none 0 0,.string ByteArray.empty]) #[iv 1,.string ByteArray.empty,iv 0,.string p0.Sweep.Site.Name,iv p0.Sweep.Site.X,iv p0.Sweep.Site.Y,iv p0.Sweep.Site.Z,iv p0.Sweep.Site.Rose,iv p0.Sweep.Site.Gates,iv p0.Sweep.Site.Step,iv p0.Sweep.Site.Width,iv p0.Sweep.Tilt,iv p0.Sweep.Time,sv ad1 p0.Sweep.Rays cap2,iv 0,iv 0,iv 0,iv 0,iv 0,.slice none 0 0,.string ByteArray.empty] hF hS rfl kr ⟨kr⟩ kr kr kr kr ⟨kr⟩ fun w a hF hS=>?_)
 refine wfn rfl ?_
 refine wpIn_ret (Ak [.cell 2 46] [.agg #[iv 1,.string ByteArray.empty,iv 0,.string p0.Sweep.Site.Name,iv p0.Sweep.Site.X,iv p0.Sweep.Site.Y,iv p0.Sweep.Site.Z,iv p0.Sweep.Site.Rose,iv p0.Sweep.Site.Gates,iv p0.Sweep.Site.Step,iv p0.Sweep.Site.Width,iv p0.Sweep.Tilt,iv p0.Sweep.Time,sv ad1 p0.Sweep.Rays cap2,iv 0,iv 0,iv 0,iv 0,iv 0,.slice none 0 0,.string ByteArray.empty]] hF rfl ⟨⟨_,rfl,Fq (cs:=[iv 1,.string ByteArray.empty,iv 0,.string p0.Sweep.Site.Name,iv p0.Sweep.Site.X,iv p0.Sweep.Site.Y,iv p0.Sweep.Site.Z,iv p0.Sweep.Site.Rose,iv p0.Sweep.Site.Gates,iv p0.Sweep.Site.Step,iv p0.Sweep.Site.Width,iv p0.Sweep.Tilt,iv p0.Sweep.Time,sv ad1 p0.Sweep.Rays cap2,iv 0,iv 0,iv 0,iv 0,iv 0,.slice none 0 0,.string ByteArray.empty]) kr ((hS.blk (i:=0) rfl).cells rfl)⟩,trivial⟩ ?_)
 subst h
 exact ⟨_,rfl,μ,ad1,cap2,css3,none,0,hext,rfl,hA4,ArrM.nil,St.pick [2] (by decide) hS⟩
theorem Lc (p0:volume_field) (res:volume_Item) (h:A2 p0=res) (μ:Frz) (w0:World) (hm:FrzAt μ w0) {ad1:Option Addr} {cap2:Nat} (hA3:ArrM μ 2 api_Span.cells ad1 cap2 p0.Field.Vals):Dd Try.prog 100 #[.agg #[.string p0.key,iv p0.time,iv p0.Field.Grid.X,iv p0.Field.Grid.Y,iv p0.Field.Grid.Size,iv p0.Field.Grid.Wide,iv p0.Field.Grid.High,sv ad1 p0.Field.Vals cap2]] w0 (fun e w=>∃(ν_:Frz) (ad6:Option Addr) (cap7:Nat) (css8:List (List Value)) (ad9:Option Addr) (a0:Nat),μ.ext w0.heap.size ν_∧e=(.agg #[iv res.Kind,.string res.Name,iv res.Time,.string res.Sweep.Site.Name,iv res.Sweep.Site.X,iv res.Sweep.Site.Y,iv res.Sweep.Site.Z,iv res.Sweep.Site.Rose,iv res.Sweep.Site.Gates,iv res.Sweep.Site.Step,iv res.Sweep.Site.Width,iv res.Sweep.Tilt,iv res.Sweep.Time,sv ad6 res.Sweep.Rays cap7,iv res.Field.Grid.X,iv res.Field.Grid.Y,iv res.Field.Grid.Size,iv res.Field.Grid.Wide,iv res.Field.Grid.High,sv ad9 res.Field.Vals a0,.string res.Text])∧ArrQ ν_ 1 Rp83 ad6 cap7 css8 res.Sweep.Rays∧ArrM ν_ 2 api_Span.cells ad9 a0 res.Field.Vals∧St w0 [fz w0 ν_] w):=by
 obtain ⟨hlow,hS⟩:=hm.init
 have hext:=Frz.ext_refl w0.heap.size μ
 rw [A2] at h
 refine Aq Try.func100 rfl 10 [(0,.agg #[.string p0.key,iv p0.time,iv p0.Field.Grid.X,iv p0.Field.Grid.Y,iv p0.Field.Grid.Size,iv p0.Field.Grid.Wide,iv p0.Field.Grid.High,sv ad1 p0.Field.Vals cap2])] rfl rfl kr fun a w hw hF=>?_
 replace hS:=hS.cast hw
 clear hw
 refine esr ?_
 refine SK.wi (H4 (t:=114) (fun b4=>[(1,pb b4)]) (.agg #[.string p0.key,iv p0.time,iv p0.Field.Grid.X,iv p0.Field.Grid.Y,iv p0.Field.Grid.Size,iv p0.Field.Grid.Wide,iv p0.Field.Grid.High,sv ad1 p0.Field.Vals cap2]) #[.string p0.key,iv p0.time,iv p0.Field.Grid.X,iv p0.Field.Grid.Y,iv p0.Field.Grid.Size,iv p0.Field.Grid.Wide,iv p0.Field.Grid.High,sv ad1 p0.Field.Vals cap2] hF hS kr ⟨kr⟩ kr (fun _=>⟨kr⟩) fun b4 w a hF hS=>?_)
 refine SK.wi (Bs (t:=46) (fun b5=>[(1,pb b4),(2,pb b5)]) #[iv 0,.string ByteArray.empty,iv 0,.string ByteArray.empty,iv 0,iv 0,iv 0,iv 0,iv 0,iv 0,iv 0,iv 0,iv 0,.slice none 0 0,iv 0,iv 0,iv 0,iv 0,iv 0,.slice none 0 0,.string ByteArray.empty] hF hS kr ⟨kr⟩ kr (fun _=>⟨kr⟩) fun b5 w a hF hS=>?_)
 refine wfn rfl ?_
 refine esr ?_
 refine rno 7 [.run [] (Instr.loadAt 9 (pb b4)) (.string p0.key),.run [] (Instr.loadAt 3 (.pointer (some ⟨b4,1,none⟩))) (iv p0.time),.run [] (Instr.loadAt 44 (.pointer (some ⟨b4,2,none⟩))) (.agg #[iv p0.Field.Grid.X,iv p0.Field.Grid.Y,iv p0.Field.Grid.Size,iv p0.Field.Grid.Wide,iv p0.Field.Grid.High,sv ad1 p0.Field.Vals cap2])] 7 [(2,pb b5),(9,.agg #[iv 2,.string p0.key,iv p0.time,.string ByteArray.empty,iv 0,iv 0,iv 0,iv 0,iv 0,iv 0,iv 0,iv 0,iv 0,.slice none 0 0,iv p0.Field.Grid.X,iv p0.Field.Grid.Y,iv p0.Field.Grid.Size,iv p0.Field.Grid.Wide,iv p0.Field.Grid.High,sv ad1 p0.Field.Vals cap2,.string ByteArray.empty])] hF (A0 (ob1 kr (fun _ hd=>(hS.at_ hd).cell (i:=1) (j:=0) rfl rfl)) (A0 (ob1 kr (fun _ hd=>(hS.at_ hd).cell (i:=1) (j:=1) rfl rfl)) (A0 (obN (us:=[iv p0.Field.Grid.X,iv p0.Field.Grid.Y,iv p0.Field.Grid.Size,iv p0.Field.Grid.Wide,iv p0.Field.Grid.High,sv ad1 p0.Field.Vals cap2]) kr (fun _ hd=>((hS.at_ hd).blk (i:=1) rfl).cells rfl)) Aa))) fun a hF=>?_
 refine SK.wi (Ap (t:=46) [(2,pb b5)] 0 0 (.agg #[iv 2,.string p0.key,iv p0.time,.string ByteArray.empty,iv 0,iv 0,iv 0,iv 0,iv 0,iv 0,iv 0,iv 0,iv 0,.slice none 0 0,iv p0.Field.Grid.X,iv p0.Field.Grid.Y,iv p0.Field.Grid.Size,iv p0.Field.Grid.Wide,iv p0.Field.Grid.High,sv ad1 p0.Field.Vals cap2,.string ByteArray.empty]) #[iv 2,.string p0.key,iv p0.time,.string ByteArray.empty,iv 0,iv 0,iv 0,iv 0,iv 0,iv 0,iv 0,iv 0,iv 0,.slice none 0 0,iv p0.Field.Grid.X,iv p0.Field.Grid.Y,iv p0.Field.Grid.Size,iv p0.Field.Grid.Wide,iv p0.Field.Grid.High,sv ad1 p0.Field.Vals cap2,.string ByteArray.empty] hF hS rfl kr ⟨kr⟩ kr kr kr kr ⟨kr⟩ fun w a hF hS=>?_)
 refine wfn rfl ?_
 refine wpIn_ret (Ak [.cell 2 46] [.agg #[iv 2,.string p0.key,iv p0.time,.string ByteArray.empty,iv 0,iv 0,iv 0,iv 0,iv 0,iv 0,iv 0,iv 0,iv 0,.slice none 0 0,iv p0.Field.Grid.X,iv p0.Field.Grid.Y,iv p0.Field.Grid.Size,iv p0.Field.Grid.Wide,iv p0.Field.Grid.High,sv ad1 p0.Field.Vals cap2,.string ByteArray.empty]] hF rfl ⟨⟨_,rfl,Fq (cs:=[iv 2,.string p0.key,iv p0.time,.string ByteArray.empty,iv 0,iv 0,iv 0,iv 0,iv 0,iv 0,iv 0,iv 0,iv 0,.slice none 0 0,iv p0.Field.Grid.X,iv p0.Field.Grid.Y,iv p0.Field.Grid.Size,iv p0.Field.Grid.Wide,iv p0.Field.Grid.High,sv ad1 p0.Field.Vals cap2,.string ByteArray.empty]) kr ((hS.blk (i:=0) rfl).cells rfl)⟩,trivial⟩ ?_)
 subst h
 exact ⟨_,rfl,μ,none,0,[],ad1,cap2,hext,rfl,ArrQ.nil,hA3,St.pick [2] (by decide) hS⟩
theorem Lk (p0:volume_note) (res:volume_Item) (h:A5 p0=res) (μ:Frz) (w0:World) (hm:FrzAt μ w0):Dd Try.prog 108 #[.agg #[iv p0.time,.string p0.text]] w0 (fun e w=>∃(ν_:Frz) (ad3:Option Addr) (cap4:Nat) (css5:List (List Value)) (ad6:Option Addr) (cap7:Nat),μ.ext w0.heap.size ν_∧e=(.agg #[iv res.Kind,.string res.Name,iv res.Time,.string res.Sweep.Site.Name,iv res.Sweep.Site.X,iv res.Sweep.Site.Y,iv res.Sweep.Site.Z,iv res.Sweep.Site.Rose,iv res.Sweep.Site.Gates,iv res.Sweep.Site.Step,iv res.Sweep.Site.Width,iv res.Sweep.Tilt,iv res.Sweep.Time,sv ad3 res.Sweep.Rays cap4,iv res.Field.Grid.X,iv res.Field.Grid.Y,iv res.Field.Grid.Size,iv res.Field.Grid.Wide,iv res.Field.Grid.High,sv ad6 res.Field.Vals cap7,.string res.Text])∧ArrQ ν_ 1 Rp83 ad3 cap4 css5 res.Sweep.Rays∧ArrM ν_ 2 api_Span.cells ad6 cap7 res.Field.Vals∧St w0 [fz w0 ν_] w):=by
 obtain ⟨hlow,hS⟩:=hm.init
 have hext:=Frz.ext_refl w0.heap.size μ
 rw [A5] at h
 refine Aq Try.func108 rfl 8 [(0,.agg #[iv p0.time,.string p0.text])] rfl rfl kr fun a w hw hF=>?_
 replace hS:=hS.cast hw
 clear hw
 refine esr ?_
 refine SK.wi (H4 (t:=116) (fun b1=>[(1,pb b1)]) (.agg #[iv p0.time,.string p0.text]) #[iv p0.time,.string p0.text] hF hS kr ⟨kr⟩ kr (fun _=>⟨kr⟩) fun b1 w a hF hS=>?_)
 refine SK.wi (Bs (t:=46) (fun b2=>[(1,pb b1),(2,pb b2)]) #[iv 0,.string ByteArray.empty,iv 0,.string ByteArray.empty,iv 0,iv 0,iv 0,iv 0,iv 0,iv 0,iv 0,iv 0,iv 0,.slice none 0 0,iv 0,iv 0,iv 0,iv 0,iv 0,.slice none 0 0,.string ByteArray.empty] hF hS kr ⟨kr⟩ kr (fun _=>⟨kr⟩) fun b2 w a hF hS=>?_)
 refine wfn rfl ?_
 refine esr ?_
 refine rno 5 [.run [] (Instr.loadAt 3 (pb b1)) (iv p0.time),.run [] (Instr.loadAt 9 (.pointer (some ⟨b1,1,none⟩))) (.string p0.text)] 5 [(2,pb b2),(7,.agg #[iv 3,.string ByteArray.empty,iv p0.time,.string ByteArray.empty,iv 0,iv 0,iv 0,iv 0,iv 0,iv 0,iv 0,iv 0,iv 0,.slice none 0 0,iv 0,iv 0,iv 0,iv 0,iv 0,.slice none 0 0,.string p0.text])] hF (A0 (ob1 kr (fun _ hd=>(hS.at_ hd).cell (i:=1) (j:=0) rfl rfl)) (A0 (ob1 kr (fun _ hd=>(hS.at_ hd).cell (i:=1) (j:=1) rfl rfl)) Aa)) fun a hF=>?_
 refine SK.wi (Ap (t:=46) [(2,pb b2)] 0 0 (.agg #[iv 3,.string ByteArray.empty,iv p0.time,.string ByteArray.empty,iv 0,iv 0,iv 0,iv 0,iv 0,iv 0,iv 0,iv 0,iv 0,.slice none 0 0,iv 0,iv 0,iv 0,iv 0,iv 0,.slice none 0 0,.string p0.text]) #[iv 3,.string ByteArray.empty,iv p0.time,.string ByteArray.empty,iv 0,iv 0,iv 0,iv 0,iv 0,iv 0,iv 0,iv 0,iv 0,.slice none 0 0,iv 0,iv 0,iv 0,iv 0,iv 0,.slice none 0 0,.string p0.text] hF hS rfl kr ⟨kr⟩ kr kr kr kr ⟨kr⟩ fun w a hF hS=>?_)
 refine wfn rfl ?_
 refine wpIn_ret (Ak [.cell 2 46] [.agg #[iv 3,.string ByteArray.empty,iv p0.time,.string ByteArray.empty,iv 0,iv 0,iv 0,iv 0,iv 0,iv 0,iv 0,iv 0,iv 0,.slice none 0 0,iv 0,iv 0,iv 0,iv 0,iv 0,.slice none 0 0,.string p0.text]] hF rfl ⟨⟨_,rfl,Fq (cs:=[iv 3,.string ByteArray.empty,iv p0.time,.string ByteArray.empty,iv 0,iv 0,iv 0,iv 0,iv 0,iv 0,iv 0,iv 0,iv 0,.slice none 0 0,iv 0,iv 0,iv 0,iv 0,iv 0,.slice none 0 0,.string p0.text]) kr ((hS.blk (i:=0) rfl).cells rfl)⟩,trivial⟩ ?_)
 subst h
 exact ⟨_,rfl,μ,none,0,[],none,0,hext,rfl,ArrQ.nil,ArrM.nil,St.pick [2] (by decide) hS⟩
theorem Qd (F:Nat) (p0:ByteArray) (res:Bool) (h:Lq F p0=some res) (μ:Frz) (w0:World) (hm:FrzAt μ w0):Calls Try.prog 55 #[.string p0] w0 (fun e w=>e=.returned (.bool res)∧Ext w0 w):=by
 obtain ⟨hlow,hS⟩:=hm.init
 have hext:=Frz.ext_refl w0.heap.size μ
 rw [Lq] at h
 refine Aq Try.func55 rfl 25 [(0,.string p0)] rfl rfl kr fun a w hw hF=>?_
 replace hS:=hS.cast hw
 clear hw
 refine esr ?_
 refine rn 1 1 [(0,.string p0)] hF fun a hF=>?_
 refine wfn rfl ?_
 refine esr ?_
 replace h:=A4 h
 obtain ⟨u1,hu1,h⟩:=h
 replace h:=A4 h
 obtain ⟨u2,hu2,h⟩:=h
 refine rx 23 [.run [] (Py .neq 9 p0 (⟨#[]⟩:ByteArray)) (.bool (!(sEq p0 (⟨#[]⟩:ByteArray)))),.run [⟨10,true,(bif (!(sEq p0 (⟨#[]⟩:ByteArray))) then (decide (((p0.size:Nat):Int)≤12)) else false)⟩] (Instr.index 9 (.string p0) (iv 0)) (.int .u8 u1),.run [⟨15,true,(bif (bif (!(sEq p0 (⟨#[]⟩:ByteArray))) then (decide (((p0.size:Nat):Int)≤12)) else false) then (decide (u1≥97)) else false)⟩] (Instr.index 9 (.string p0) (iv 0)) (.int .u8 u2),.call [⟨20,true,(bif (bif (bif (!(sEq p0 (⟨#[]⟩:ByteArray))) then (decide (((p0.size:Nat):Int)≤12)) else false) then (decide (u1≥97)) else false) then (decide (u2≤122)) else false)⟩] 57 #[.string p0,.func (.func 58) #[] #[]] (.bool (E0 p0))] 23 [(2,.bool (bif (bif (bif (bif (!(sEq p0 (⟨#[]⟩:ByteArray))) then (decide (((p0.size:Nat):Int)≤12)) else false) then (decide (u1≥97)) else false) then (decide (u2≤122)) else false) then (!(E0 p0)) else false))] hF (A0 Sr (A0 (Yh kr (fun hk=>E3 hu1 hk)) (A0 (Yh kr (fun hk=>E3 hu2 hk)) (A0 (show Ob.ok _ Ext _ _ from fun hk w2 hd=>Ms p0 _ rfl _ w2 (A7 w2)) Aa)))) fun a w hF hx=>?_
 replace hS:=hS.later hx
 refine wfn rfl ?_
 refine wpIn_ret (Ak [.tmp 2] [.bool (bif (bif (bif (bif (!(sEq p0 (⟨#[]⟩:ByteArray))) then (decide (((p0.size:Nat):Int)≤12)) else false) then (decide (u1≥97)) else false) then (decide (u2≤122)) else false) then (!(E0 p0)) else false)] hF rfl ⟨rfl,trivial⟩ ?_)
 have hr_:=Option.some.inj h
 subst hr_
 exact ⟨rfl,hS.ext⟩
theorem Cq (p0:Int) (p1:Int) (p2:Int) (res:Bool) (h:Af p0 p1 p2=res) (μ:Frz) (w0:World) (hm:FrzAt μ w0):Calls Try.prog 56 #[iv p0,iv p1,iv p2] w0 (fun e w=>e=.returned (.bool res)∧Ext w0 w):=by
 obtain ⟨hlow,hS⟩:=hm.init
 have hext:=Frz.ext_refl w0.heap.size μ
 rw [Af] at h
 refine Aq Try.func56 rfl 15 [(0,iv p0),(1,iv p1),(2,iv p2)] rfl rfl kr fun a w hw hF=>?_
 replace hS:=hS.cast hw
 clear hw
 refine esr ?_
 refine rn 1 1 [(0,iv p0),(1,iv p1),(2,iv p2)] hF fun a hF=>?_
 refine wfn rfl ?_
 refine esr ?_
 refine rn 9 9 [(6,.bool (bif (decide (p1≤p0)) then (decide (p0≤p2)) else false))] hF fun a hF=>?_
 refine wfn rfl ?_
 refine wpIn_ret (Ak [.tmp 6] [.bool (bif (decide (p1≤p0)) then (decide (p0≤p2)) else false)] hF rfl ⟨rfl,trivial⟩ ?_)
 subst h
 exact ⟨rfl,hS.ext⟩
theorem Hc (p0:Int) (p1:Int) (p2:Int) (res:Bool) (h:Au p0 p1 p2=res) (μ:Frz) (w0:World) (hm:FrzAt μ w0):Calls Try.prog 94 #[iv p0,iv p1,iv p2] w0 (fun e w=>e=.returned (.bool res)∧Ext w0 w):=by
 obtain ⟨hlow,hS⟩:=hm.init
 have hext:=Frz.ext_refl w0.heap.size μ
 rw [Au] at h
 refine Aq Try.func94 rfl 15 [(0,iv p0),(1,iv p1),(2,iv p2)] rfl rfl kr fun a w hw hF=>?_
 replace hS:=hS.cast hw
 clear hw
 refine esr ?_
 refine rn 1 1 [(0,iv p0),(1,iv p1),(2,iv p2)] hF fun a hF=>?_
 refine wfn rfl ?_
 refine esr ?_
 refine rn 9 9 [(6,.bool (bif (decide (p1≤p0)) then (decide (p0≤p2)) else false))] hF fun a hF=>?_
 refine wfn rfl ?_
 refine wpIn_ret (Ak [.tmp 6] [.bool (bif (decide (p1≤p0)) then (decide (p0≤p2)) else false)] hF rfl ⟨rfl,trivial⟩ ?_)
 subst h
 exact ⟨rfl,hS.ext⟩
theorem Lh (p0:api_Span) (p1:Int) (p2:Int) (res:Bool) (h:A9 p0 p1 p2=res) (μ:Frz) (w0:World) (hm:FrzAt μ w0):Calls Try.prog 97 #[.agg #[iv p0.Lo,iv p0.Hi],iv p1,iv p2] w0 (fun e w=>e=.returned (.bool res)∧Ext w0 w):=by
 obtain ⟨hlow,hS⟩:=hm.init
 have hext:=Frz.ext_refl w0.heap.size μ
 rw [A9] at h
 refine Aq Try.func97 rfl 24 [(0,.agg #[iv p0.Lo,iv p0.Hi]),(1,iv p1),(2,iv p2)] rfl rfl kr fun a w hw hF=>?_
 replace hS:=hS.cast hw
 clear hw
 refine esr ?_
 refine SK.wi (H4 (t:=85) (fun b1=>[(1,iv p1),(2,iv p2),(3,pb b1)]) (.agg #[iv p0.Lo,iv p0.Hi]) #[iv p0.Lo,iv p0.Hi] hF hS kr ⟨kr⟩ kr (fun _=>⟨kr⟩) fun b1 w a hF hS=>?_)
 refine rn 1 2 [(1,iv p1),(2,iv p2),(3,pb b1)] hF fun a hF=>?_
 refine wfn rfl ?_
 refine esr ?_
 refine rno 18 [.run [] (Instr.loadAt 3 (pb b1)) (iv p0.Lo),.run [⟨11,true,(decide (p1≤p0.Lo))⟩] (Instr.loadAt 3 (pb b1)) (iv p0.Lo),.run [⟨11,true,(decide (p1≤p0.Lo))⟩] (Instr.loadAt 3 (.pointer (some ⟨b1,1,none⟩))) (iv p0.Hi),.run [⟨18,true,(bif (decide (p1≤p0.Lo)) then (decide (p0.Lo≤p0.Hi)) else false)⟩] (Instr.loadAt 3 (.pointer (some ⟨b1,1,none⟩))) (iv p0.Hi)] 18 [(6,.bool (bif (bif (decide (p1≤p0.Lo)) then (decide (p0.Lo≤p0.Hi)) else false) then (decide (p0.Hi≤p2)) else false))] hF (A0 (ob1 kr (fun _ hd=>(hS.at_ hd).cell (i:=0) (j:=0) rfl rfl)) (A0 (ob1 kr (fun _ hd=>(hS.at_ hd).cell (i:=0) (j:=0) rfl rfl)) (A0 (ob1 kr (fun _ hd=>(hS.at_ hd).cell (i:=0) (j:=1) rfl rfl)) (A0 (ob1 kr (fun _ hd=>(hS.at_ hd).cell (i:=0) (j:=1) rfl rfl)) Aa)))) fun a hF=>?_
 refine wfn rfl ?_
 refine wpIn_ret (Ak [.tmp 6] [.bool (bif (bif (decide (p1≤p0.Lo)) then (decide (p0.Lo≤p0.Hi)) else false) then (decide (p0.Hi≤p2)) else false)] hF rfl ⟨rfl,trivial⟩ ?_)
 subst h
 exact ⟨rfl,hS.ext⟩
theorem Ld (F:Nat) (p0:volume_note) (res:Int) (h:Dm F p0=some res) (μ:Frz) (w0:World) (hm:FrzAt μ w0):Calls Try.prog 107 #[.agg #[iv p0.time,.string p0.text]] w0 (fun e w=>e=.returned (iv res)∧Ext w0 w):=by
 obtain ⟨hlow,hS⟩:=hm.init
 have hext:=Frz.ext_refl w0.heap.size μ
 rw [Dm] at h
 refine Aq Try.func107 rfl 34 [(0,.agg #[iv p0.time,.string p0.text])] rfl rfl kr fun a w hw hF=>?_
 replace hS:=hS.cast hw
 clear hw
 refine esr ?_
 refine SK.wi (H4 (t:=116) (fun b1=>[(1,pb b1)]) (.agg #[iv p0.time,.string p0.text]) #[iv p0.time,.string p0.text] hF hS kr ⟨kr⟩ kr (fun _=>⟨kr⟩) fun b1 w a hF hS=>?_)
 refine rn 1 2 [(1,pb b1)] hF fun a hF=>?_
 refine wfn rfl ?_
 refine B0 ?_
 refine wpIn_block ?_
 refine esr ?_
 refine rno 9 [.run [] (Instr.loadAt 3 (pb b1)) (iv p0.time),.run [⟨9,false,(decide (p0.time<0))⟩] (Instr.loadAt 3 (pb b1)) (iv p0.time)] 9 [(1,pb b1),(5,.bool (bif (decide (p0.time<0)) then true else (decide (p0.time>4294967296))))] hF (A0 (ob1 kr (fun _ hd=>(hS.at_ hd).cell (i:=0) (j:=0) rfl rfl)) (A0 (ob1 kr (fun _ hd=>(hS.at_ hd).cell (i:=0) (j:=0) rfl rfl)) Aa)) fun a hF=>?_
 refine wfn rfl ?_
 refine As hF rfl (fun hc=>?_) (fun hc=>?_)
 ·replace h:=Ao h hc
  refine esr ?_
  refine rn 1 1 [(2,iv 3)] hF fun a hF=>?_
  refine wfn rfl ?_
  refine wpIn_ret (Ar<|Ab<|Ak [.tmp 2] [iv 3] hF rfl ⟨rfl,trivial⟩ ?_)
  have hr_:=Option.some.inj h
  subst hr_
  exact ⟨rfl,hS.ext⟩
 ·replace h:=An h hc
  refine esr ?_
  refine rno 5 [.run [] (Instr.loadAt 9 (.pointer (some ⟨b1,1,none⟩))) (.string p0.text)] 5 [(1,pb b1),(14,.bool (decide (((p0.text.size:Nat):Int)>200)))] hF (A0 (ob1 kr (fun _ hd=>(hS.at_ hd).cell (i:=0) (j:=1) rfl rfl)) Aa) fun a hF=>?_
  refine wfn rfl ?_
  refine As hF rfl (fun hc=>?_) (fun hc=>?_)
  ·replace h:=Ao h hc
   refine esr ?_
   refine rn 1 1 [(2,iv 8)] hF fun a hF=>?_
   refine wfn rfl ?_
   refine wpIn_ret (Ar<|Ab<|Ak [.tmp 2] [iv 8] hF rfl ⟨rfl,trivial⟩ ?_)
   have hr_:=Option.some.inj h
   subst hr_
   exact ⟨rfl,hS.ext⟩
  ·replace h:=An h hc
   refine wpIn_skip (Ac<|A1<|?_)
   refine Ei (fun a w=>Fr 34 [] [] a∧St w0 [blk b1 116 #[iv p0.time,.string p0.text],fz w0 μ] w∧G9=some res) ?_ ?_
   ·skip
    refine esr ?_
    refine rno 2 [.run [] (Instr.loadAt 9 (.pointer (some ⟨b1,1,none⟩))) (.string p0.text)] 2 [(20,.string p0.text)] hF (A0 (ob1 kr (fun _ hd=>(hS.at_ hd).cell (i:=0) (j:=1) rfl rfl)) Aa) fun a hF=>?_
    replace h:=A4 h
    obtain ⟨a0,a7,h⟩:=h
    refine SK.wi (A0x (src:=9) (dst:=23) 5 (fun a2 a3=>[(21,sv a2 a0 a3)]) hF hS kr ⟨kr⟩ kr kr kr a7 (fun _ _=>⟨kr⟩) fun a2 a3 w a hF hS=>?_)
    refine rn 2 5 [(21,sv a2 a0 a3),(22,iv (ln a0)),(23,iv 0)] hF fun a hF=>?_
    refine wfn rfl ?_
    refine wpIn_block ?_
    refine E4 (fun n_ a w=>∃(a1:Int),Fr 34 [] [(21,sv a2 a0 a3),(22,iv (ln a0)),(23,iv a1)] a∧St w0 [arrT 5 1 (fK .u8) a2 a0.length a3 a0,blk b1 116 #[iv p0.time,.string p0.text],fz w0 μ] w∧E2 a0 n_ a1=some res) F ⟨0,hF.sub kr,St.pick [0,1,2] (by decide) hS,h⟩ ?_
    rintro nk2 a w ⟨a1,hF,hS,h⟩
    rcases nk2 with _|nk2
    ·cases (show (none:Option Int)=some res from h)
    obtain ⟨k2,hk2⟩:∃k,k=E2 a0 nk2:=⟨_,rfl⟩
    replace h:G8 a0 k2 a1=some res:=by rw [hk2];exact h
    rw [G8] at h
    refine esr ?_
    refine rn 1 1 [(21,sv a2 a0 a3),(22,iv (ln a0)),(23,iv a1),(24,.bool (decide (a1<(ln a0))))] hF fun a hF=>?_
    refine wfn rfl ?_
    refine B0 ?_
    refine As hF rfl (fun hc=>?_) (fun hc=>?_)
    ·replace h:=Ao h hc
     refine wpIn_skip (A1 ?_)
     refine B0 ?_
     refine wpIn_block ?_
     refine esr ?_
     replace h:=A4 h
     obtain ⟨a4,a6,h⟩:=h
     refine rno 3 [.run [] (Instr.indexAt 23 (sv a2 a0 a3) (iv a1)) (.pointer (some (Ag a2 a1 1))),.run [] (Instr.loadAt 5 (.pointer (some (Ag a2 a1 1)))) (.int .u8 a4)] 3 [(4,.int .u8 a4),(21,sv a2 a0 a3),(22,iv (ln a0)),(23,iv a1)] hF (A0 (Bc (hS.arrT_ (i:=0) rfl) kr (fun _=>a6)) (A0 (Ey (i:=a1) 0 (Cf .u8) (fun _ hd=>((hS.at_ hd).arrT_ (i:=0) rfl)) kr (fun _=>a6) rfl) Aa)) fun a hF=>?_
     refine wfn rfl ?_
     refine esr ?_
     refine rn 6 6 [(21,sv a2 a0 a3),(22,iv (ln a0)),(23,iv a1),(32,.bool (bif (decide (a4<32)) then true else (decide (a4>126))))] hF fun a hF=>?_
     refine wfn rfl ?_
     refine As hF rfl (fun hc=>?_) (fun hc=>?_)
     ·replace h:=Ao h hc
      refine esr ?_
      refine rn 1 1 [(2,iv 7)] hF fun a hF=>?_
      refine wfn rfl ?_
      refine wpIn_ret (Ar<|Ab<|Ab<|Ar<|Ab<|Ak [.tmp 2] [iv 7] hF rfl ⟨rfl,trivial⟩ ?_)
      have hr_:=Option.some.inj h
      subst hr_
      exact ⟨rfl,hS.ext⟩
     ·replace h:=An h hc
      refine wpIn_skip (Ac<|A1<|?_)
      refine WI.region ?_
      replace h:=A4 h
      obtain ⟨a5,a8,h⟩:=h
      refine rno 2 [.run [] (binOp .add 3 (iv a1) (iv 1)) (iv a5)] 2 [(21,sv a2 a0 a3),(22,iv (ln a0)),(23,iv a5)] hF (A0 (Aw (fun _=>a8)) Aa) fun a hF=>?_
      refine wfn rfl ?_
      rw [hk2] at h
      exact ⟨nk2,Nat.lt_succ_self _,a5,hF.sub kr,St.pick [0,1,2] (by decide) hS,h⟩
    ·replace h:=An h hc
     refine wpIn_exit (Ad<|Ad<|Bb<|A1 ?_)
     exact ⟨hF.sub kr,St.pick [1,2] (by decide) hS,h⟩
   rintro a w ⟨hF,hS,h⟩
   rw [G9] at h
   refine esr ?_
   refine rn 1 1 [(2,iv 0)] hF fun a hF=>?_
   refine wfn rfl ?_
   refine wpIn_ret (Ak [.tmp 2] [iv 0] hF rfl ⟨rfl,trivial⟩ ?_)
   have hr_:=Option.some.inj h
   subst hr_
   exact ⟨rfl,hS.ext⟩
theorem Ax (F:Nat) (p0:volume_writer) (p1:(List Int)) (res:volume_writer) (h:At F p0 p1=some res) (μ:Frz) (w0 w1:World) (T_:List Res) (hlow:Ba w0 μ) {cb0:Nat} {ad1:Option Addr} {cap2:Nat} {ad3:Option Addr} {cap4:Nat} (hA5:ArrM μ 1 fI ad3 cap4 p1) (hS:St w0 (fz w0 μ::blk cb0 106 #[sv ad1 p0.b cap2]::arrT 5 1 (fK .u8) ad1 p0.b.length cap2 p0.b::T_) w1):Dd Try.prog 43 #[pb cb0,sv ad3 p1 cap4] w1 (fun e w=>∃(ν_:Frz) (aQ:Option Addr) (aT:Nat),μ.ext w0.heap.size ν_∧Ba w0 ν_∧e=(.tuple #[])∧St w0 (fz w0 ν_::blk cb0 106 #[sv aQ res.b aT]::arrT 5 1 (fK .u8) aQ res.b.length aT res.b::T_) w):=by
 rw [At] at h
 have hext:=Frz.ext_refl w0.heap.size μ
 refine Aq Try.func43 rfl 42 [(0,pb cb0),(1,sv ad3 p1 cap4)] rfl rfl kr fun a w hw hF=>?_
 replace hS:=hS.cast hw
 clear hw
 refine esr ?_
 refine rn 3 3 [(0,pb cb0),(6,sv ad3 p1 cap4),(7,iv (ln p1)),(8,iv 0)] hF fun a hF=>?_
 refine wfn rfl ?_
 refine wpIn_block ?_
 refine E4 (fun n_ a w=>∃(a8:(List Int)) (a0:Int) (aG:Option Addr) (aH:Nat),Fr 42 [] [(0,pb cb0),(6,sv ad3 p1 cap4),(7,iv (ln p1)),(8,iv a0)] a∧St w0 (arrT 5 1 (fK .u8) aG a8.length aH a8::fz w0 μ::blk cb0 106 #[sv aG a8 aH]::T_) w∧Cv F p1 n_ a8 a0=some res) F ⟨p0.b,0,ad1,cap2,hF.sub kr,hS.s2,h⟩ ?_
 rintro nk1 a w ⟨a8,a0,aG,aH,hF,hS,h⟩
 rcases nk1 with _|nk1
 ·cases (show (none:Option volume_writer)=some res from h)
 obtain ⟨k1,hk1⟩:∃k,k=Cv F p1 nk1:=⟨_,rfl⟩
 replace h:Es F p1 k1 a8 a0=some res:=by rw [hk1];exact h
 rw [Es] at h
 refine esr ?_
 refine rn 1 1 [(0,pb cb0),(6,sv ad3 p1 cap4),(7,iv (ln p1)),(8,iv a0),(9,.bool (decide (a0<(ln p1))))] hF fun a hF=>?_
 refine wfn rfl ?_
 refine B0 ?_
 refine As hF rfl (fun hc=>?_) (fun hc=>?_)
 ·replace h:=Ao h hc
  refine wpIn_skip (A1 ?_)
  refine Ei (fun a w=>∃(aF:(List Int)) (aK:Option Addr) (aL:Nat),Fr 42 [] [(0,pb cb0),(6,sv ad3 p1 cap4),(7,iv (ln p1)),(8,iv a0)] a∧St w0 (arrT 5 1 (fK .u8) aK aF.length aL aF::fz w0 μ::blk cb0 106 #[sv aK aF aL]::T_) w∧Eu a0 k1 aF=some res) ?_ ?_
  ·skip
   refine wpIn_block ?_
   refine esr ?_
   replace h:=A4 h
   obtain ⟨aN,aU,h⟩:=h
   refine rno 3 [.run [] (Instr.indexAt 51 (sv ad3 p1 cap4) (iv a0)) (.pointer (some (Ag ad3 a0 1))),.run [] (Instr.loadAt 3 (.pointer (some (Ag ad3 a0 1)))) (iv aN)] 3 [(0,pb cb0),(5,iv aN),(6,sv ad3 p1 cap4),(7,iv (ln p1)),(8,iv a0)] hF (A0 (Bc (hA5 _ (hS.frz (i:=1) rfl hlow)) kr (fun _=>aU)) (A0 (Ey (i:=a0) 0 Ee (fun _ hd=>(hA5 _ ((hS.at_ hd).frz (i:=1) rfl hlow))) kr (fun _=>aU) rfl) Aa)) fun a hF=>?_
   refine wfn rfl ?_
   refine Ei (fun a w=>∃(a3:(List Int)) (aM:Int) (a9:Option Addr) (aC:Nat),Fr 42 [] [(0,pb cb0),(5,iv aM),(6,sv ad3 p1 cap4),(7,iv (ln p1)),(8,iv a0)] a∧St w0 (arrT 5 1 (fK .u8) a9 a3.length aC a3::fz w0 μ::blk cb0 106 #[sv a9 a3 aC]::T_) w∧Ev a0 k1 a3 aM=some res) ?_ ?_
   ·skip
    refine wpIn_block ?_
    refine E4 (fun n_ a w=>∃(a2:(List Int)) (a1:Int) (a6:Option Addr) (a7:Nat),Fr 42 [] [(0,pb cb0),(5,iv a1),(6,sv ad3 p1 cap4),(7,iv (ln p1)),(8,iv a0)] a∧St w0 (arrT 5 1 (fK .u8) a6 a2.length a7 a2::fz w0 μ::blk cb0 106 #[sv a6 a2 a7]::T_) w∧Cw a0 k1 n_ a2 a1=some res) F ⟨a8,aN,aG,aH,hF.sub kr,hS,h⟩ ?_
    rintro nk4 a w ⟨a2,a1,a6,a7,hF,hS,h⟩
    rcases nk4 with _|nk4
    ·cases (show (none:Option volume_writer)=some res from h)
    obtain ⟨k4,hk4⟩:∃k,k=Cw a0 k1 nk4:=⟨_,rfl⟩
    replace h:Et a0 k1 k4 a2 a1=some res:=by rw [hk4];exact h
    rw [Et] at h
    refine B0 ?_
    refine esr ?_
    refine rn 2 2 [(0,pb cb0),(5,iv a1),(6,sv ad3 p1 cap4),(7,iv (ln p1)),(8,iv a0),(13,.bool (decide (a1≥127)))] hF fun a hF=>?_
    refine wfn rfl ?_
    refine As hF rfl (fun hc=>?_) (fun hc=>?_)
    ·replace h:=Ao h hc
     refine wpIn_skip (A1 ?_)
     refine B0 ?_
     refine wpIn_block ?_
     refine WI.region ?_
     replace h:=A4 h
     obtain ⟨aV,b0,h⟩:=h
     replace h:=A4 h
     obtain ⟨a5,b1,h⟩:=h
     refine rno 9 [.run [] (Instr.loadAt 23 (pb cb0)) (sv a6 a2 a7),.run [] (binOp .rem 3 (iv a1) (iv 127)) (iv aV),.run [] (binOp .add 3 (iv 128) (iv aV)) (iv a5),.run [] (convert 3 5 (iv a5)) (.int .u8 (IntKind.u8.wrap a5))] 9 [(0,pb cb0),(5,iv a1),(6,sv ad3 p1 cap4),(7,iv (ln p1)),(8,iv a0),(16,pb cb0),(20,sv a6 a2 a7),(24,.int .u8 (IntKind.u8.wrap a5))] hF (A0 (ob1 kr (fun _ hd=>(hS.at_ hd).cell (i:=2) (j:=0) rfl rfl)) (A0 (Jj (fun _=>b0)) (A0 (Aw (fun _=>b1)) (A0 (Ca kr) Aa)))) fun a hF=>?_
     refine SK.wi (G0 (e:=5) (sz:=1) (f:=(fK .u8)) (t:=23) (len:=1) (fun aS=>[(0,pb cb0),(5,iv a1),(6,sv ad3 p1 cap4),(7,iv (ln p1)),(8,iv a0),(16,pb cb0),(20,sv a6 a2 a7),(25,sb aS 1)]) #[(0,.int .u8 (IntKind.u8.wrap a5))] #[.int .u8 (IntKind.u8.wrap a5)] ([IntKind.u8.wrap a5]) hF hS kr ⟨kr⟩ kr (Cf .u8) rfl rfl kr (fun _=>⟨kr⟩) fun aS w a hF hS=>?_)
     replace h:=A4 h
     obtain ⟨aJ,aX,h⟩:=h
     refine SK.wi (S6 (t:=23) (ty:=23) (bytes:=1) (l:=a2) (l':=([IntKind.u8.wrap a5])) (fun aB aE=>[(0,pb cb0),(5,iv a1),(6,sv ad3 p1 cap4),(7,iv (ln p1)),(8,iv a0),(16,pb cb0),(26,sv aB aJ aE)]) 1 hF hS rfl kr ⟨kr⟩ kr (hS.arr (i:=0) rfl) (fun _ _=>rfl) aX (fun _ _=>⟨kr⟩) fun aB aE w a hF hS=>?_)
     refine rn 2 13 [(0,pb cb0),(5,iv a1),(6,sv ad3 p1 cap4),(7,iv (ln p1)),(8,iv a0),(26,sv aB aJ aE),(28,pb cb0)] hF fun a hF=>?_
     refine SK.wi (Ap (t:=23) [(0,pb cb0),(5,iv a1),(6,sv ad3 p1 cap4),(7,iv (ln p1)),(8,iv a0)] 3 0 (sv aB aJ aE) #[sv aB aJ aE] hF hS rfl kr ⟨kr⟩ kr kr kr kr ⟨kr⟩ fun w a hF hS=>?_)
     refine WI.fin rfl (Ac<|A1<|?_)
     refine WI.region ?_
     replace h:=A4 h
     obtain ⟨aP,b2,h⟩:=h
     refine rno 3 [.run [] (binOp .quo 3 (iv a1) (iv 127)) (iv aP)] 3 [(0,pb cb0),(5,iv aP),(6,sv ad3 p1 cap4),(7,iv (ln p1)),(8,iv a0)] hF (A0 (R5 (fun _=>b2)) Aa) fun a hF=>?_
     refine wfn rfl ?_
     rw [hk4] at h
     exact ⟨nk4,Nat.lt_succ_self _,aJ,aP,aB,aE,hF.sub kr,hS.d0,h⟩
    ·replace h:=An h hc
     refine wpIn_exit (Ad<|Ad<|Bb<|A1 ?_)
     exact ⟨a2,a1,a6,a7,hF.sub kr,hS,h⟩
   rintro a w ⟨a3,aM,a9,aC,hF,hS,h⟩
   rw [Ev] at h
   refine WI.region ?_
   replace h:=A4 h
   obtain ⟨a4,aZ,h⟩:=h
   refine rno 8 [.run [] (Instr.loadAt 23 (pb cb0)) (sv a9 a3 aC),.run [] (binOp .add 3 (iv 1) (iv aM)) (iv a4),.run [] (convert 3 5 (iv a4)) (.int .u8 (IntKind.u8.wrap a4))] 8 [(0,pb cb0),(6,sv ad3 p1 cap4),(7,iv (ln p1)),(8,iv a0),(29,pb cb0),(33,sv a9 a3 aC),(36,.int .u8 (IntKind.u8.wrap a4))] hF (A0 (ob1 kr (fun _ hd=>(hS.at_ hd).cell (i:=2) (j:=0) rfl rfl)) (A0 (Aw (fun _=>aZ)) (A0 (Ca kr) Aa))) fun a hF=>?_
   refine SK.wi (G0 (e:=5) (sz:=1) (f:=(fK .u8)) (t:=23) (len:=1) (fun aR=>[(0,pb cb0),(6,sv ad3 p1 cap4),(7,iv (ln p1)),(8,iv a0),(29,pb cb0),(33,sv a9 a3 aC),(37,sb aR 1)]) #[(0,.int .u8 (IntKind.u8.wrap a4))] #[.int .u8 (IntKind.u8.wrap a4)] ([IntKind.u8.wrap a4]) hF hS kr ⟨kr⟩ kr (Cf .u8) rfl rfl kr (fun _=>⟨kr⟩) fun aR w a hF hS=>?_)
   replace h:=A4 h
   obtain ⟨aI,aW,h⟩:=h
   refine SK.wi (S6 (t:=23) (ty:=23) (bytes:=1) (l:=a3) (l':=([IntKind.u8.wrap a4])) (fun aA aD=>[(0,pb cb0),(6,sv ad3 p1 cap4),(7,iv (ln p1)),(8,iv a0),(29,pb cb0),(38,sv aA aI aD)]) 1 hF hS rfl kr ⟨kr⟩ kr (hS.arr (i:=0) rfl) (fun _ _=>rfl) aW (fun _ _=>⟨kr⟩) fun aA aD w a hF hS=>?_)
   refine rn 2 12 [(0,pb cb0),(6,sv ad3 p1 cap4),(7,iv (ln p1)),(8,iv a0),(38,sv aA aI aD),(40,pb cb0)] hF fun a hF=>?_
   refine SK.wi (Ap (t:=23) [(0,pb cb0),(6,sv ad3 p1 cap4),(7,iv (ln p1)),(8,iv a0)] 3 0 (sv aA aI aD) #[sv aA aI aD] hF hS rfl kr ⟨kr⟩ kr kr kr kr ⟨kr⟩ fun w a hF hS=>?_)
   refine WI.fin rfl (Ac<|A1<|?_)
   exact ⟨aI,aA,aD,hF.sub kr,hS.d0,h⟩
  rintro a w ⟨aF,aK,aL,hF,hS,h⟩
  rw [Eu] at h
  refine WI.region ?_
  replace h:=A4 h
  obtain ⟨aO,aY,h⟩:=h
  refine rno 2 [.run [] (binOp .add 3 (iv a0) (iv 1)) (iv aO)] 2 [(0,pb cb0),(6,sv ad3 p1 cap4),(7,iv (ln p1)),(8,iv aO)] hF (A0 (Aw (fun _=>aY)) Aa) fun a hF=>?_
  refine wfn rfl ?_
  rw [hk1] at h
  exact ⟨nk1,Nat.lt_succ_self _,aF,aO,aK,aL,hF.sub kr,hS,h⟩
 ·replace h:=An h hc
  refine wpIn_exit (Ad<|Ad<|Bb<|?_)
  refine Hm hF rfl ?_
  have hr_:=Option.some.inj h
  subst hr_
  replace hS:=hS.s2.s2
  exact ⟨_,rfl,μ,aG,aH,hext,hlow,rfl,hS⟩
theorem Pw (F:Nat) (p0:(List Int)) (p1:(List Int)) (res:Bool) (h:F5 F p0 p1=some res) (μ:Frz) (w0:World) (hm:FrzAt μ w0) {ad1:Option Addr} {cap2:Nat} {ad4:Option Addr} {cap5:Nat} (hA3:ArrM μ 1 (fK .u8) ad1 cap2 p0) (hA6:ArrM μ 1 (fK .u8) ad4 cap5 p1):Calls Try.prog 22 #[sv ad1 p0 cap2,sv ad4 p1 cap5] w0 (fun e w=>e=.returned (.bool res)∧Ext w0 w):=by
 obtain ⟨hlow,hS⟩:=hm.init
 have hext:=Frz.ext_refl w0.heap.size μ
 rw [F5] at h
 refine Aq Try.func22 rfl 18 [(0,sv ad1 p0 cap2),(1,sv ad4 p1 cap5)] rfl rfl kr fun a w hw hF=>?_
 replace hS:=hS.cast hw
 clear hw
 refine esr ?_
 refine rn 1 1 [(0,sv ad1 p0 cap2),(1,sv ad4 p1 cap5)] hF fun a hF=>?_
 refine wfn rfl ?_
 refine esr ?_
 refine rn 6 6 [(0,sv ad1 p0 cap2),(1,sv ad4 p1 cap5),(10,.bool (decide ((ln p0)≥(ln p1))))] hF fun a hF=>?_
 rcases Bool.eq_false_or_eq_true ((decide ((ln p0)≥(ln p1)))) with hg7|hg7
 ·replace h:=Ao h hg7
  rw [hg7] at hF
  replace h:=A4 h
  obtain ⟨l8,hl8,h⟩:=h
  have hA9:ArrM μ 1 (fK .u8) (Am ad1 cap2 (0:Int).toNat 1) (cap2-(0:Int).toNat) l8:=fun w_ hw_=>(hA3 w_ hw_).cutD (Cf .u8) hl8
  refine rx 8 [.run [⟨10,true,true⟩] (Instr.sliceAt 23 (sv ad1 p0 cap2) none (some (iv (ln p1))) none) (.slice (Am ad1 cap2 (0:Int).toNat 1) l8.length (cap2-(0:Int).toNat)),.call [⟨10,true,true⟩] 35 #[.slice (Am ad1 cap2 (0:Int).toNat 1) l8.length (cap2-(0:Int).toNat),sv ad4 p1 cap5] (.bool (Ex l8 p1))] 14 [(4,.bool (Ex l8 p1))] hF (A0 (P0 kr (hA3 _ (hS.frz (i:=0) rfl hlow)) (fun _=>hl8)) (A0 (show Ob.ok _ Ext _ _ from fun hk w2 hd=>Nr l8 p1 _ rfl _ w2 (A7 w2) (hA9.mono (FrzAt.le_mem ((hS.later hd).frz (i:=0) rfl hlow))) (hA6.mono (FrzAt.le_mem ((hS.later hd).frz (i:=0) rfl hlow)))) Aa)) fun a w hF hx=>?_
  replace hS:=hS.later hx
  refine wfn rfl ?_
  refine wpIn_ret (Ak [.tmp 4] [.bool (Ex l8 p1)] hF rfl ⟨rfl,trivial⟩ ?_)
  have hr_:=Option.some.inj h
  subst hr_
  exact ⟨rfl,hS.ext⟩
 ·replace h:=An h hg7
  rw [hg7] at hF
  refine E6 7 [(1,sv ad4 p1 cap5),(10,.bool false),(11,undef)] hF kr ⟨kr⟩ ⟨kr⟩ rfl fun a hF=>?_
  refine E6 8 [(1,sv ad4 p1 cap5),(10,.bool false),(11,undef),(12,undef)] hF kr ⟨kr⟩ ⟨kr⟩ rfl fun a hF=>?_
  refine E6 9 [(1,sv ad4 p1 cap5),(10,.bool false),(11,undef),(13,undef)] hF kr ⟨kr⟩ ⟨kr⟩ rfl fun a hF=>?_
  refine E6 10 [(1,sv ad4 p1 cap5),(10,.bool false),(14,undef)] hF kr ⟨kr⟩ ⟨kr⟩ rfl fun a hF=>?_
  refine E6 11 [(10,.bool false),(14,undef),(15,undef)] hF kr ⟨kr⟩ ⟨kr⟩ rfl fun a hF=>?_
  refine E6 12 [(10,.bool false),(16,undef)] hF kr ⟨kr⟩ ⟨kr⟩ rfl fun a hF=>?_
  refine rn 2 14 [(4,.bool false)] hF fun a hF=>?_
  refine wfn rfl ?_
  refine wpIn_ret (Ak [.tmp 4] [.bool false] hF rfl ⟨rfl,trivial⟩ ?_)
  have hr_:=Option.some.inj h
  subst hr_
  exact ⟨rfl,hS.ext⟩
theorem Mv (p0:(List Int)) (res:Unit) (h:Ps p0=res) (μ:Frz) (w0:World) (hm:FrzAt μ w0) {ad1:Option Addr} {cap2:Nat} (hA3:ArrM μ 1 (fK .u8) ad1 cap2 p0):Dd Try.prog 23 #[sv ad1 p0 cap2] w0 (fun e w=>∃zb0,e=(.func (.func 36) #[] #[pb zb0])∧St w0 [blk zb0 23 #[sv ad1 p0 cap2]] w):=by
 obtain ⟨hlow,hS⟩:=hm.init
 have hext:=Frz.ext_refl w0.heap.size μ
 rw [Ps] at h
 refine Aq Try.func23 rfl 4 [(0,sv ad1 p0 cap2)] rfl rfl kr fun a w hw hF=>?_
 replace hS:=hS.cast hw
 clear hw
 refine esr ?_
 refine SK.wi (H4 (t:=23) (fun b4=>[(1,pb b4)]) (sv ad1 p0 cap2) #[sv ad1 p0 cap2] hF hS kr ⟨kr⟩ kr (fun _=>⟨kr⟩) fun b4 w a hF hS=>?_)
 refine rn 1 2 [(1,pb b4)] hF fun a hF=>?_
 refine wfn rfl ?_
 refine esr ?_
 refine rn 2 2 [(2,.func (.func 36) #[] #[pb b4])] hF fun a hF=>?_
 refine wfn rfl ?_
 refine wpIn_ret (Ak [.tmp 2] [.func (.func 36) #[] #[pb b4]] hF rfl ⟨rfl,trivial⟩ ?_)
 subst h
 exact ⟨_,rfl,b4,rfl,St.pick [0] (by decide) hS⟩
theorem M4 (x0:Bool) {b0:Nat} {w0 w:World} {H:List Res} (hS:St w0 (blk b0 4 #[.bool x0]::H) w):CallsDIn (F0 none) 0 Try.prog 45 #[pb b0] .returning w (fun e u_ w=>e=.returned (.tuple #[])∧settle u_=.returning∧St w0 (blk b0 4 #[.bool x0]::H) w):=by
 refine Jt Try.func45 rfl 9 [(0,pb b0)] [(0,pb b0),(4,.nilIface)] rfl rfl kr kr ⟨kr⟩ ⟨kr⟩ fun a hF=>?_
 refine rn 6 7 [(0,pb b0),(2,.bool false)] hF fun a hF=>?_
 refine wfn rfl ?_
 refine esr ?_
 refine rn 1 1 [(0,pb b0),(8,.bool false)] hF fun a hF=>?_
 refine wfn rfl ?_
 refine wpIn_cond_false (hF.get rfl) ?_
 refine wpIn_skip ?_
 refine Hm hF rfl ?_
 exact ⟨rfl,rfl,hS⟩
theorem M5 (x0:Bool) (z_:Int) {b0:Nat} {w0 w:World} {H:List Res} (hS:St w0 (blk b0 4 #[.bool x0]::H) w):CallsDIn (F0 none) 0 Try.prog 45 #[pb b0] (.panicking [{ v:=.iface 101 (iv z_),recovered:=false }]) w (fun e u_ w=>e=.returned (.tuple #[])∧settle u_=.returning∧St w0 (blk b0 4 #[.bool false]::H) w):=by
 refine Jt Try.func45 rfl 9 [(0,pb b0)] [(0,pb b0),(4,.iface 101 (iv z_))] rfl rfl kr kr ⟨kr⟩ ⟨kr⟩ fun a hF=>?_
 refine rn 6 7 [(0,pb b0),(2,.bool true)] hF fun a hF=>?_
 refine wfn rfl ?_
 refine esr ?_
 refine rn 1 1 [(0,pb b0),(8,.bool true)] hF fun a hF=>?_
 refine wfn rfl ?_
 refine wpIn_cond_true (hF.get rfl) ?_
 refine WI.region ?_
 refine SK.wi (Ap (t:=4) [] 0 0 (.bool false) #[.bool false] hF hS rfl kr ⟨kr⟩ kr kr kr kr ⟨kr⟩ fun w a hF hS=>?_)
 refine WI.fin rfl ?_
 refine Hm hF rfl ?_
 exact ⟨rfl,rfl,hS⟩
theorem Aj (F:Nat) (p0:volume_reader) (res:Except (Value×volume_reader) (Int×volume_reader)) (h:Ah F p0=some res) (μ:Frz) (w0 w1:World) (T_:List Res) (hlow:Ba w0 μ) {cb0:Nat} {ad1:Option Addr} {cap2:Nat} (hA3:ArrM μ 1 (fK .u8) ad1 cap2 p0.b) (hS:St w0 (fz w0 μ::blk cb0 98 #[sv ad1 p0.b cap2]::T_) w1):Mx Try.prog 46 #[pb cb0] w1 res (fun r_ e w=>∃(ν_:Frz) (aB:Option Addr) (aD:Nat),μ.ext w0.heap.size ν_∧Ba w0 ν_∧e=(iv r_.1)∧(ArrM ν_ 1 (fK .u8) aB aD r_.2.b)∧St w0 (fz w0 ν_::blk cb0 98 #[sv aB r_.2.b aD]::T_) w) (fun e_ w=>∃(ν_:Frz) (aC:Option Addr) (aE:Nat),μ.ext w0.heap.size ν_∧Ba w0 ν_∧(ArrM ν_ 1 (fK .u8) aC aE e_.b)∧St w0 (fz w0 ν_::blk cb0 98 #[sv aC e_.b aE]::T_) w):=by
 rw [Ah] at h
 have hext:=Frz.ext_refl w0.heap.size μ
 refine Aq Try.func46 rfl 71 [(0,pb cb0)] rfl rfl kr fun a w hw hF=>?_
 replace hS:=hS.cast hw
 clear hw
 refine esr ?_
 refine rn 1 1 [(0,pb cb0)] hF fun a hF=>?_
 refine wfn rfl ?_
 refine esr ?_
 refine rn 2 2 [(0,pb cb0),(3,iv 0),(4,iv 1)] hF fun a hF=>?_
 refine wfn rfl ?_
 refine Ei (fun a w=>Fr 71 [] [] a∧St w0 (fz w0 μ::blk cb0 98 #[sv ad1 p0.b cap2]::T_) w∧Ep p0=some res) ?_ ?_
 ·skip
  refine B0 ?_
  replace h:=A4 h
  obtain ⟨a0,aH,h⟩:=h
  have aF:ArrM μ 1 (fK .u8) (Am ad1 cap2 (0:Int).toNat 1) (cap2-(0:Int).toNat) a0:=fun w_ hw_=>(hA3 w_ hw_).cutD (Cf .u8) aH
  refine Po (obs:=[.run [] (Instr.loadAt 23 (pb cb0)) (sv ad1 p0.b cap2),.run [] (Instr.loadAt 23 (pb cb0)) (sv ad1 p0.b cap2),.run [] (Instr.sliceAt 23 (sv ad1 p0.b cap2) none (some (iv (if 8<(ln p0.b) then 8 else (ln p0.b)))) none) (.slice (Am ad1 cap2 (0:Int).toNat 1) a0.length (cap2-(0:Int).toNat))]) 13 [(0,pb cb0),(3,iv 0),(4,iv 1),(17,.slice (Am ad1 cap2 (0:Int).toNat 1) a0.length (cap2-(0:Int).toNat)),(18,iv (ln a0)),(19,iv 0)] kr hF kr (A0 (ob1 kr (fun _ hd=>(hS.later hd).cell (i:=1) (j:=0) rfl rfl)) (A0 (ob1 kr (fun _ hd=>(hS.later hd).cell (i:=1) (j:=0) rfl rfl)) (A0 (P0 kr (hA3 _ (hS.frz (i:=0) rfl hlow)) (fun _=>aH)) Aa))) ⟨kr⟩ fun a w hF hx=>?_
  replace hS:=hS.later hx
  refine wfn rfl ?_
  refine wpIn_block ?_
  refine E4 (fun n_ a w=>∃(a1:Int) (a4:Int) (a2:Int),Fr 71 [] [(0,pb cb0),(3,iv a4),(4,iv a2),(17,.slice (Am ad1 cap2 (0:Int).toNat 1) a0.length (cap2-(0:Int).toNat)),(18,iv (ln a0)),(19,iv a1)] a∧St w0 (fz w0 μ::blk cb0 98 #[sv ad1 p0.b cap2]::T_) w∧Bj p0 a0 n_ a1 a4 a2=some res) F ⟨0,0,1,hF.sub kr,hS,h⟩ ?_
  rintro nk2 a w ⟨a1,a4,a2,hF,hS,h⟩
  rcases nk2 with _|nk2
  ·cases (show (none:Option (Except (Value×volume_reader) (Int×volume_reader)))=some res from h)
  obtain ⟨k2,hk2⟩:∃k,k=Bj p0 a0 nk2:=⟨_,rfl⟩
  replace h:Eo p0 a0 k2 a1 a4 a2=some res:=by rw [hk2];exact h
  rw [Eo] at h
  refine esr ?_
  refine rn 1 1 [(0,pb cb0),(3,iv a4),(4,iv a2),(17,.slice (Am ad1 cap2 (0:Int).toNat 1) a0.length (cap2-(0:Int).toNat)),(18,iv (ln a0)),(19,iv a1),(20,.bool (decide (a1<(ln a0))))] hF fun a hF=>?_
  refine wfn rfl ?_
  refine B0 ?_
  refine As hF rfl (fun hc=>?_) (fun hc=>?_)
  ·replace h:=Ao h hc
   refine wpIn_skip (A1 ?_)
   refine B0 ?_
   refine wpIn_block ?_
   refine esr ?_
   replace h:=A4 h
   obtain ⟨a3,aI,h⟩:=h
   refine rno 5 [.run [] (Instr.indexAt 23 (.slice (Am ad1 cap2 (0:Int).toNat 1) a0.length (cap2-(0:Int).toNat)) (iv a1)) (.pointer (some (Ag (Am ad1 cap2 (0:Int).toNat 1) a1 1))),.run [] (Instr.loadAt 5 (.pointer (some (Ag (Am ad1 cap2 (0:Int).toNat 1) a1 1)))) (.int .u8 a3)] 5 [(0,pb cb0),(3,iv a4),(4,iv a2),(5,iv a1),(6,.int .u8 a3),(17,.slice (Am ad1 cap2 (0:Int).toNat 1) a0.length (cap2-(0:Int).toNat)),(18,iv (ln a0)),(19,iv a1)] hF (A0 (Bc (aF _ (hS.frz (i:=0) rfl hlow)) kr (fun _=>aI)) (A0 (Ey (i:=a1) 0 (Cf .u8) (fun _ hd=>(aF _ ((hS.at_ hd).frz (i:=0) rfl hlow))) kr (fun _=>aI) rfl) Aa)) fun a hF=>?_
   refine wfn rfl ?_
   refine Ei (fun a w=>Fr 71 [] [(0,pb cb0),(3,iv a4),(4,iv a2),(6,.int .u8 a3),(17,.slice (Am ad1 cap2 (0:Int).toNat 1) a0.length (cap2-(0:Int).toNat)),(18,iv (ln a0)),(19,iv a1)] a∧St w0 (fz w0 μ::blk cb0 98 #[sv ad1 p0.b cap2]::T_) w∧Er a1 a4 a2 k2 a3=some res) ?_ ?_
   ·skip
    refine wpIn_block ?_
    refine esr ?_
    refine rn 15 15 [(0,pb cb0),(3,iv a4),(4,iv a2),(5,iv a1),(6,.int .u8 a3),(17,.slice (Am ad1 cap2 (0:Int).toNat 1) a0.length (cap2-(0:Int).toNat)),(18,iv (ln a0)),(19,iv a1),(24,.bool (bif (bif (a3==0) then true else (a3==255)) then true else (bif (a3==1) then (decide (a1>0)) else false)))] hF fun a hF=>?_
    refine wfn rfl ?_
    refine As hF rfl (fun hc=>?_) (fun hc=>?_)
    ·replace h:=Ao h hc
     refine WI.region ?_
     refine rn 1 1 [(0,pb cb0),(3,iv a4),(4,iv a2),(6,.int .u8 a3),(17,.slice (Am ad1 cap2 (0:Int).toNat 1) a0.length (cap2-(0:Int).toNat)),(18,iv (ln a0)),(19,iv a1),(39,.iface 101 (iv 7))] hF fun a hF=>?_
     refine Nb (t:=101) (v:=iv 7) hF ⟨kr⟩ (Ai<|A6<|Ai<|A6<|A6<|Ai<|A6<|B1 hF ?_)
     have hr_:=Option.some.inj h
     subst hr_
     replace hS:=hS
     exact .inr ⟨_,rfl,rfl,μ,ad1,cap2,hext,hlow,hA3,hS⟩
    ·replace h:=An h hc
     refine esr ?_
     refine rn 3 3 [(0,pb cb0),(3,iv a4),(4,iv a2),(5,iv a1),(6,.int .u8 a3),(17,.slice (Am ad1 cap2 (0:Int).toNat 1) a0.length (cap2-(0:Int).toNat)),(18,iv (ln a0)),(19,iv a1),(40,.bool (decide (a3<128)))] hF fun a hF=>?_
     refine wfn rfl ?_
     refine As hF rfl (fun hc=>?_) (fun hc=>?_)
     ·replace h:=Ao h hc
      refine esr ?_
      replace h:=A4 h
      obtain ⟨a5,aW,h⟩:=h
      replace h:=A4 h
      obtain ⟨a6,aG,h⟩:=h
      have aP:ArrM μ 1 (fK .u8) (Am ad1 cap2 a5.toNat 1) (cap2-a5.toNat) a6:=fun w_ hw_=>(hA3 w_ hw_).cutD (Cf .u8) aG
      refine rno 10 [.run [] (Instr.loadAt 23 (pb cb0)) (sv ad1 p0.b cap2),.run [] (binOp .add 3 (iv a1) (iv 1)) (iv a5),.run [] (Instr.sliceAt 23 (sv ad1 p0.b cap2) (some (iv a5)) none none) (.slice (Am ad1 cap2 a5.toNat 1) a6.length (cap2-a5.toNat))] 10 [(3,iv a4),(4,iv a2),(6,.int .u8 a3),(50,.slice (Am ad1 cap2 a5.toNat 1) a6.length (cap2-a5.toNat)),(52,pb cb0)] hF (A0 (ob1 kr (fun _ hd=>(hS.at_ hd).cell (i:=1) (j:=0) rfl rfl)) (A0 (Aw (fun _=>aW)) (A0 (M3 kr (hA3 _ (hS.frz (i:=0) rfl hlow)) (fun _=>aG)) Aa))) fun a hF=>?_
      refine SK.wi (Ap (t:=23) [(3,iv a4),(4,iv a2),(6,.int .u8 a3)] 1 0 (.slice (Am ad1 cap2 a5.toNat 1) a6.length (cap2-a5.toNat)) #[.slice (Am ad1 cap2 a5.toNat 1) a6.length (cap2-a5.toNat)] hF hS rfl kr ⟨kr⟩ kr kr kr kr ⟨kr⟩ fun w a hF hS=>?_)
      refine wfn rfl ?_
      refine esr ?_
      replace h:=A4 h
      obtain ⟨aM,aX,h⟩:=h
      replace h:=A4 h
      obtain ⟨aN,aY,h⟩:=h
      replace h:=A4 h
      obtain ⟨aO,aZ,h⟩:=h
      replace h:=A4 h
      obtain ⟨aA,b0,h⟩:=h
      refine rno 8 [.run [] (convert 5 3 (.int .u8 a3)) (iv aM),.run [] (binOp .sub 3 (iv aM) (iv 1)) (iv aN),.run [] (binOp .mul 3 (iv aN) (iv a2)) (iv aO),.run [] (binOp .add 3 (iv a4) (iv aO)) (iv aA)] 8 [(2,iv aA)] hF (A0 (J4 kr kr (fun _=>aX)) (A0 (Jk (fun _=>aY)) (A0 (K8 (fun _=>aZ)) (A0 (Aw (fun _=>b0)) Aa)))) fun a hF=>?_
      refine wfn rfl ?_
      refine wpIn_ret (Ar<|Ab<|Ar<|Ab<|Ab<|Ar<|Ab<|Ak [.tmp 2] [iv aA] hF rfl ⟨rfl,trivial⟩ ?_)
      have hr_:=Option.some.inj h
      subst hr_
      replace hS:=hS
      exact .inl ⟨_,_,rfl,rfl,μ,(Am ad1 cap2 a5.toNat 1),(cap2-a5.toNat),hext,hlow,rfl,aP,hS⟩
     ·replace h:=An h hc
      refine wpIn_skip (Ac<|A1<|?_)
      exact ⟨hF.sub kr,hS,h⟩
   rintro a w ⟨hF,hS,h⟩
   rw [Er] at h
   refine esr ?_
   replace h:=A4 h
   obtain ⟨aJ,aQ,h⟩:=h
   replace h:=A4 h
   obtain ⟨aK,aR,h⟩:=h
   replace h:=A4 h
   obtain ⟨aL,aS,h⟩:=h
   replace h:=A4 h
   obtain ⟨a7,aT,h⟩:=h
   refine rno 8 [.run [] (convert 5 3 (.int .u8 a3)) (iv aJ),.run [] (binOp .sub 3 (iv aJ) (iv 128)) (iv aK),.run [] (binOp .mul 3 (iv aK) (iv a2)) (iv aL),.run [] (binOp .add 3 (iv a4) (iv aL)) (iv a7)] 8 [(0,pb cb0),(3,iv a7),(4,iv a2),(17,.slice (Am ad1 cap2 (0:Int).toNat 1) a0.length (cap2-(0:Int).toNat)),(18,iv (ln a0)),(19,iv a1)] hF (A0 (J4 kr kr (fun _=>aQ)) (A0 (Jk (fun _=>aR)) (A0 (K8 (fun _=>aS)) (A0 (Aw (fun _=>aT)) Aa)))) fun a hF=>?_
   refine wfn rfl ?_
   refine WI.region ?_
   replace h:=A4 h
   obtain ⟨a8,aU,h⟩:=h
   refine rno 3 [.run [] (binOp .mul 3 (iv a2) (iv 127)) (iv a8)] 3 [(0,pb cb0),(3,iv a7),(4,iv a8),(17,.slice (Am ad1 cap2 (0:Int).toNat 1) a0.length (cap2-(0:Int).toNat)),(18,iv (ln a0)),(19,iv a1)] hF (A0 (K8 (fun _=>aU)) Aa) fun a hF=>?_
   refine WI.fin rfl (Ac<|A1<|?_)
   refine WI.region ?_
   replace h:=A4 h
   obtain ⟨a9,aV,h⟩:=h
   refine rno 2 [.run [] (binOp .add 3 (iv a1) (iv 1)) (iv a9)] 2 [(0,pb cb0),(3,iv a7),(4,iv a8),(17,.slice (Am ad1 cap2 (0:Int).toNat 1) a0.length (cap2-(0:Int).toNat)),(18,iv (ln a0)),(19,iv a9)] hF (A0 (Aw (fun _=>aV)) Aa) fun a hF=>?_
   refine wfn rfl ?_
   rw [hk2] at h
   exact ⟨nk2,Nat.lt_succ_self _,a9,a7,a8,hF.sub kr,hS,h⟩
  ·replace h:=An h hc
   refine wpIn_exit (Ad<|Ad<|Bb<|A1 ?_)
   exact ⟨hF.sub kr,hS,h⟩
 rintro a w ⟨hF,hS,h⟩
 rw [Ep] at h
 refine WI.region ?_
 refine rn 1 1 [(70,.iface 101 (iv 7))] hF fun a hF=>?_
 refine Nb (t:=101) (v:=iv 7) hF ⟨kr⟩ (B1 hF ?_)
 have hr_:=Option.some.inj h
 subst hr_
 replace hS:=hS
 exact .inr ⟨_,rfl,rfl,μ,ad1,cap2,hext,hlow,hA3,hS⟩
theorem L1 (F:Nat) (p0:volume_Item) (p1:volume_Item) (res:Bool) (h:Ho F p0 p1=some res) (μ:Frz) (w0:World) (hm:FrzAt μ w0) {ad1:Option Addr} {cap2:Nat} {css3:List (List Value)} {ad4:Option Addr} {cap5:Nat} {ad8:Option Addr} {cap9:Nat} {a6:List (List Value)} {a1:Option Addr} {a3:Nat} (hA6:ArrQ μ 1 Rp83 ad1 cap2 css3 p0.Sweep.Rays) (hA7:ArrM μ 2 api_Span.cells ad4 cap5 p0.Field.Vals) (a7:ArrQ μ 1 Rp83 ad8 cap9 a6 p1.Sweep.Rays) (a8:ArrM μ 2 api_Span.cells a1 a3 p1.Field.Vals):Calls Try.prog 14 #[.agg #[iv p0.Kind,.string p0.Name,iv p0.Time,.string p0.Sweep.Site.Name,iv p0.Sweep.Site.X,iv p0.Sweep.Site.Y,iv p0.Sweep.Site.Z,iv p0.Sweep.Site.Rose,iv p0.Sweep.Site.Gates,iv p0.Sweep.Site.Step,iv p0.Sweep.Site.Width,iv p0.Sweep.Tilt,iv p0.Sweep.Time,sv ad1 p0.Sweep.Rays cap2,iv p0.Field.Grid.X,iv p0.Field.Grid.Y,iv p0.Field.Grid.Size,iv p0.Field.Grid.Wide,iv p0.Field.Grid.High,sv ad4 p0.Field.Vals cap5,.string p0.Text],.agg #[iv p1.Kind,.string p1.Name,iv p1.Time,.string p1.Sweep.Site.Name,iv p1.Sweep.Site.X,iv p1.Sweep.Site.Y,iv p1.Sweep.Site.Z,iv p1.Sweep.Site.Rose,iv p1.Sweep.Site.Gates,iv p1.Sweep.Site.Step,iv p1.Sweep.Site.Width,iv p1.Sweep.Tilt,iv p1.Sweep.Time,sv ad8 p1.Sweep.Rays cap9,iv p1.Field.Grid.X,iv p1.Field.Grid.Y,iv p1.Field.Grid.Size,iv p1.Field.Grid.Wide,iv p1.Field.Grid.High,sv a1 p1.Field.Vals a3,.string p1.Text]] w0 (fun e w=>e=.returned (.bool res)∧Ext w0 w):=by
 obtain ⟨hlow,hS⟩:=hm.init
 have hext:=Frz.ext_refl w0.heap.size μ
 rw [Ho] at h
 refine Aq Try.func14 rfl 45 [(0,.agg #[iv p0.Kind,.string p0.Name,iv p0.Time,.string p0.Sweep.Site.Name,iv p0.Sweep.Site.X,iv p0.Sweep.Site.Y,iv p0.Sweep.Site.Z,iv p0.Sweep.Site.Rose,iv p0.Sweep.Site.Gates,iv p0.Sweep.Site.Step,iv p0.Sweep.Site.Width,iv p0.Sweep.Tilt,iv p0.Sweep.Time,sv ad1 p0.Sweep.Rays cap2,iv p0.Field.Grid.X,iv p0.Field.Grid.Y,iv p0.Field.Grid.Size,iv p0.Field.Grid.Wide,iv p0.Field.Grid.High,sv ad4 p0.Field.Vals cap5,.string p0.Text]),(1,.agg #[iv p1.Kind,.string p1.Name,iv p1.Time,.string p1.Sweep.Site.Name,iv p1.Sweep.Site.X,iv p1.Sweep.Site.Y,iv p1.Sweep.Site.Z,iv p1.Sweep.Site.Rose,iv p1.Sweep.Site.Gates,iv p1.Sweep.Site.Step,iv p1.Sweep.Site.Width,iv p1.Sweep.Tilt,iv p1.Sweep.Time,sv ad8 p1.Sweep.Rays cap9,iv p1.Field.Grid.X,iv p1.Field.Grid.Y,iv p1.Field.Grid.Size,iv p1.Field.Grid.Wide,iv p1.Field.Grid.High,sv a1 p1.Field.Vals a3,.string p1.Text])] rfl rfl kr fun a w hw hF=>?_
 replace hS:=hS.cast hw
 clear hw
 refine esr ?_
 refine SK.wi (H4 (t:=46) (fun a0=>[(1,.agg #[iv p1.Kind,.string p1.Name,iv p1.Time,.string p1.Sweep.Site.Name,iv p1.Sweep.Site.X,iv p1.Sweep.Site.Y,iv p1.Sweep.Site.Z,iv p1.Sweep.Site.Rose,iv p1.Sweep.Site.Gates,iv p1.Sweep.Site.Step,iv p1.Sweep.Site.Width,iv p1.Sweep.Tilt,iv p1.Sweep.Time,sv ad8 p1.Sweep.Rays cap9,iv p1.Field.Grid.X,iv p1.Field.Grid.Y,iv p1.Field.Grid.Size,iv p1.Field.Grid.Wide,iv p1.Field.Grid.High,sv a1 p1.Field.Vals a3,.string p1.Text]),(2,pb a0)]) (.agg #[iv p0.Kind,.string p0.Name,iv p0.Time,.string p0.Sweep.Site.Name,iv p0.Sweep.Site.X,iv p0.Sweep.Site.Y,iv p0.Sweep.Site.Z,iv p0.Sweep.Site.Rose,iv p0.Sweep.Site.Gates,iv p0.Sweep.Site.Step,iv p0.Sweep.Site.Width,iv p0.Sweep.Tilt,iv p0.Sweep.Time,sv ad1 p0.Sweep.Rays cap2,iv p0.Field.Grid.X,iv p0.Field.Grid.Y,iv p0.Field.Grid.Size,iv p0.Field.Grid.Wide,iv p0.Field.Grid.High,sv ad4 p0.Field.Vals cap5,.string p0.Text]) #[iv p0.Kind,.string p0.Name,iv p0.Time,.string p0.Sweep.Site.Name,iv p0.Sweep.Site.X,iv p0.Sweep.Site.Y,iv p0.Sweep.Site.Z,iv p0.Sweep.Site.Rose,iv p0.Sweep.Site.Gates,iv p0.Sweep.Site.Step,iv p0.Sweep.Site.Width,iv p0.Sweep.Tilt,iv p0.Sweep.Time,sv ad1 p0.Sweep.Rays cap2,iv p0.Field.Grid.X,iv p0.Field.Grid.Y,iv p0.Field.Grid.Size,iv p0.Field.Grid.Wide,iv p0.Field.Grid.High,sv ad4 p0.Field.Vals cap5,.string p0.Text] hF hS kr ⟨kr⟩ kr (fun _=>⟨kr⟩) fun a0 w a hF hS=>?_)
 refine SK.wi (H4 (t:=46) (fun a2=>[(2,pb a0),(3,pb a2)]) (.agg #[iv p1.Kind,.string p1.Name,iv p1.Time,.string p1.Sweep.Site.Name,iv p1.Sweep.Site.X,iv p1.Sweep.Site.Y,iv p1.Sweep.Site.Z,iv p1.Sweep.Site.Rose,iv p1.Sweep.Site.Gates,iv p1.Sweep.Site.Step,iv p1.Sweep.Site.Width,iv p1.Sweep.Tilt,iv p1.Sweep.Time,sv ad8 p1.Sweep.Rays cap9,iv p1.Field.Grid.X,iv p1.Field.Grid.Y,iv p1.Field.Grid.Size,iv p1.Field.Grid.Wide,iv p1.Field.Grid.High,sv a1 p1.Field.Vals a3,.string p1.Text]) #[iv p1.Kind,.string p1.Name,iv p1.Time,.string p1.Sweep.Site.Name,iv p1.Sweep.Site.X,iv p1.Sweep.Site.Y,iv p1.Sweep.Site.Z,iv p1.Sweep.Site.Rose,iv p1.Sweep.Site.Gates,iv p1.Sweep.Site.Step,iv p1.Sweep.Site.Width,iv p1.Sweep.Tilt,iv p1.Sweep.Time,sv ad8 p1.Sweep.Rays cap9,iv p1.Field.Grid.X,iv p1.Field.Grid.Y,iv p1.Field.Grid.Size,iv p1.Field.Grid.Wide,iv p1.Field.Grid.High,sv a1 p1.Field.Vals a3,.string p1.Text] hF hS kr ⟨kr⟩ kr (fun _=>⟨kr⟩) fun a2 w a hF hS=>?_)
 refine rn 1 3 [(2,pb a0),(3,pb a2)] hF fun a hF=>?_
 refine wfn rfl ?_
 refine esr ?_
 replace h:=A4 h
 obtain ⟨a4,a9,h⟩:=h
 replace h:=A4 h
 obtain ⟨a5,aA,h⟩:=h
 refine rx 41 [.run [] (Instr.loadAt 3 (pb a0)) (iv p0.Kind),.run [] (Instr.loadAt 3 (pb a2)) (iv p1.Kind),.run [⟨10,true,(p0.Kind==p1.Kind)⟩] (Instr.loadAt 9 (.pointer (some ⟨a0,1,none⟩))) (.string p0.Name),.run [⟨10,true,(p0.Kind==p1.Kind)⟩] (Instr.loadAt 9 (.pointer (some ⟨a2,1,none⟩))) (.string p1.Name),.run [⟨10,true,(p0.Kind==p1.Kind)⟩] (Py .eql 9 p0.Name p1.Name) (.bool (sEq p0.Name p1.Name)),.run [⟨17,true,(bif (p0.Kind==p1.Kind) then (sEq p0.Name p1.Name) else false)⟩] (Instr.loadAt 3 (.pointer (some ⟨a0,2,none⟩))) (iv p0.Time),.run [⟨17,true,(bif (p0.Kind==p1.Kind) then (sEq p0.Name p1.Name) else false)⟩] (Instr.loadAt 3 (.pointer (some ⟨a2,2,none⟩))) (iv p1.Time),.run [⟨24,true,(bif (bif (p0.Kind==p1.Kind) then (sEq p0.Name p1.Name) else false) then (p0.Time==p1.Time) else false)⟩] (Instr.loadAt 9 (.pointer (some ⟨a0,20,none⟩))) (.string p0.Text),.run [⟨24,true,(bif (bif (p0.Kind==p1.Kind) then (sEq p0.Name p1.Name) else false) then (p0.Time==p1.Time) else false)⟩] (Instr.loadAt 9 (.pointer (some ⟨a2,20,none⟩))) (.string p1.Text),.run [⟨24,true,(bif (bif (p0.Kind==p1.Kind) then (sEq p0.Name p1.Name) else false) then (p0.Time==p1.Time) else false)⟩] (Py .eql 9 p0.Text p1.Text) (.bool (sEq p0.Text p1.Text)),.run [⟨31,true,(bif (bif (bif (p0.Kind==p1.Kind) then (sEq p0.Name p1.Name) else false) then (p0.Time==p1.Time) else false) then (sEq p0.Text p1.Text) else false)⟩] (Instr.loadAt 39 (.pointer (some ⟨a0,3,none⟩))) (.agg #[.string p0.Sweep.Site.Name,iv p0.Sweep.Site.X,iv p0.Sweep.Site.Y,iv p0.Sweep.Site.Z,iv p0.Sweep.Site.Rose,iv p0.Sweep.Site.Gates,iv p0.Sweep.Site.Step,iv p0.Sweep.Site.Width,iv p0.Sweep.Tilt,iv p0.Sweep.Time,sv ad1 p0.Sweep.Rays cap2]),.run [⟨31,true,(bif (bif (bif (p0.Kind==p1.Kind) then (sEq p0.Name p1.Name) else false) then (p0.Time==p1.Time) else false) then (sEq p0.Text p1.Text) else false)⟩] (Instr.loadAt 39 (.pointer (some ⟨a2,3,none⟩))) (.agg #[.string p1.Sweep.Site.Name,iv p1.Sweep.Site.X,iv p1.Sweep.Site.Y,iv p1.Sweep.Site.Z,iv p1.Sweep.Site.Rose,iv p1.Sweep.Site.Gates,iv p1.Sweep.Site.Step,iv p1.Sweep.Site.Width,iv p1.Sweep.Tilt,iv p1.Sweep.Time,sv ad8 p1.Sweep.Rays cap9]),.call [⟨31,true,(bif (bif (bif (p0.Kind==p1.Kind) then (sEq p0.Name p1.Name) else false) then (p0.Time==p1.Time) else false) then (sEq p0.Text p1.Text) else false)⟩] 28 #[.agg #[.string p0.Sweep.Site.Name,iv p0.Sweep.Site.X,iv p0.Sweep.Site.Y,iv p0.Sweep.Site.Z,iv p0.Sweep.Site.Rose,iv p0.Sweep.Site.Gates,iv p0.Sweep.Site.Step,iv p0.Sweep.Site.Width,iv p0.Sweep.Tilt,iv p0.Sweep.Time,sv ad1 p0.Sweep.Rays cap2],.agg #[.string p1.Sweep.Site.Name,iv p1.Sweep.Site.X,iv p1.Sweep.Site.Y,iv p1.Sweep.Site.Z,iv p1.Sweep.Site.Rose,iv p1.Sweep.Site.Gates,iv p1.Sweep.Site.Step,iv p1.Sweep.Site.Width,iv p1.Sweep.Tilt,iv p1.Sweep.Time,sv ad8 p1.Sweep.Rays cap9]] (.bool a4),.run [⟨38,true,(bif (bif (bif (bif (p0.Kind==p1.Kind) then (sEq p0.Name p1.Name) else false) then (p0.Time==p1.Time) else false) then (sEq p0.Text p1.Text) else false) then a4 else false)⟩] (Instr.loadAt 44 (.pointer (some ⟨a0,14,none⟩))) (.agg #[iv p0.Field.Grid.X,iv p0.Field.Grid.Y,iv p0.Field.Grid.Size,iv p0.Field.Grid.Wide,iv p0.Field.Grid.High,sv ad4 p0.Field.Vals cap5]),.run [⟨38,true,(bif (bif (bif (bif (p0.Kind==p1.Kind) then (sEq p0.Name p1.Name) else false) then (p0.Time==p1.Time) else false) then (sEq p0.Text p1.Text) else false) then a4 else false)⟩] (Instr.loadAt 44 (.pointer (some ⟨a2,14,none⟩))) (.agg #[iv p1.Field.Grid.X,iv p1.Field.Grid.Y,iv p1.Field.Grid.Size,iv p1.Field.Grid.Wide,iv p1.Field.Grid.High,sv a1 p1.Field.Vals a3]),.call [⟨38,true,(bif (bif (bif (bif (p0.Kind==p1.Kind) then (sEq p0.Name p1.Name) else false) then (p0.Time==p1.Time) else false) then (sEq p0.Text p1.Text) else false) then a4 else false)⟩] 29 #[.agg #[iv p0.Field.Grid.X,iv p0.Field.Grid.Y,iv p0.Field.Grid.Size,iv p0.Field.Grid.Wide,iv p0.Field.Grid.High,sv ad4 p0.Field.Vals cap5],.agg #[iv p1.Field.Grid.X,iv p1.Field.Grid.Y,iv p1.Field.Grid.Size,iv p1.Field.Grid.Wide,iv p1.Field.Grid.High,sv a1 p1.Field.Vals a3]] (.bool a5)] 41 [(4,.bool (bif (bif (bif (bif (bif (p0.Kind==p1.Kind) then (sEq p0.Name p1.Name) else false) then (p0.Time==p1.Time) else false) then (sEq p0.Text p1.Text) else false) then a4 else false) then a5 else false))] hF (A0 (ob1 kr (fun _ hd=>(hS.later hd).cell (i:=1) (j:=0) rfl rfl)) (A0 (ob1 kr (fun _ hd=>(hS.later hd).cell (i:=0) (j:=0) rfl rfl)) (A0 (ob1 kr (fun _ hd=>(hS.later hd).cell (i:=1) (j:=1) rfl rfl)) (A0 (ob1 kr (fun _ hd=>(hS.later hd).cell (i:=0) (j:=1) rfl rfl)) (A0 Yg (A0 (ob1 kr (fun _ hd=>(hS.later hd).cell (i:=1) (j:=2) rfl rfl)) (A0 (ob1 kr (fun _ hd=>(hS.later hd).cell (i:=0) (j:=2) rfl rfl)) (A0 (ob1 kr (fun _ hd=>(hS.later hd).cell (i:=1) (j:=20) rfl rfl)) (A0 (ob1 kr (fun _ hd=>(hS.later hd).cell (i:=0) (j:=20) rfl rfl)) (A0 Yg (A0 (obN (us:=[.string p0.Sweep.Site.Name,iv p0.Sweep.Site.X,iv p0.Sweep.Site.Y,iv p0.Sweep.Site.Z,iv p0.Sweep.Site.Rose,iv p0.Sweep.Site.Gates,iv p0.Sweep.Site.Step,iv p0.Sweep.Site.Width,iv p0.Sweep.Tilt,iv p0.Sweep.Time,sv ad1 p0.Sweep.Rays cap2]) kr (fun _ hd=>((hS.later hd).blk (i:=1) rfl).cells rfl)) (A0 (obN (us:=[.string p1.Sweep.Site.Name,iv p1.Sweep.Site.X,iv p1.Sweep.Site.Y,iv p1.Sweep.Site.Z,iv p1.Sweep.Site.Rose,iv p1.Sweep.Site.Gates,iv p1.Sweep.Site.Step,iv p1.Sweep.Site.Width,iv p1.Sweep.Tilt,iv p1.Sweep.Time,sv ad8 p1.Sweep.Rays cap9]) kr (fun _ hd=>((hS.later hd).blk (i:=0) rfl).cells rfl)) (A0 (show Ob.ok _ Ext _ _ from fun hk w2 hd=>Sj F p0.Sweep p1.Sweep _ ((fun hk=>E3 a9 hk) hk) _ w2 (A7 w2) (hA6.mono Rp83.mono (FrzAt.le_mem ((hS.later hd).frz (i:=2) rfl hlow))) (a7.mono Rp83.mono (FrzAt.le_mem ((hS.later hd).frz (i:=2) rfl hlow)))) (A0 (obN (us:=[iv p0.Field.Grid.X,iv p0.Field.Grid.Y,iv p0.Field.Grid.Size,iv p0.Field.Grid.Wide,iv p0.Field.Grid.High,sv ad4 p0.Field.Vals cap5]) kr (fun _ hd=>((hS.later hd).blk (i:=1) rfl).cells rfl)) (A0 (obN (us:=[iv p1.Field.Grid.X,iv p1.Field.Grid.Y,iv p1.Field.Grid.Size,iv p1.Field.Grid.Wide,iv p1.Field.Grid.High,sv a1 p1.Field.Vals a3]) kr (fun _ hd=>((hS.later hd).blk (i:=0) rfl).cells rfl)) (A0 (show Ob.ok _ Ext _ _ from fun hk w2 hd=>Si F p0.Field p1.Field _ ((fun hk=>E3 aA hk) hk) _ w2 (A7 w2) (hA7.mono (FrzAt.le_mem ((hS.later hd).frz (i:=2) rfl hlow))) (a8.mono (FrzAt.le_mem ((hS.later hd).frz (i:=2) rfl hlow)))) Aa)))))))))))))))) fun a w hF hx=>?_
 replace hS:=hS.later hx
 refine wfn rfl ?_
 refine wpIn_ret (Ak [.tmp 4] [.bool (bif (bif (bif (bif (bif (p0.Kind==p1.Kind) then (sEq p0.Name p1.Name) else false) then (p0.Time==p1.Time) else false) then (sEq p0.Text p1.Text) else false) then a4 else false) then a5 else false)] hF rfl ⟨rfl,trivial⟩ ?_)
 have hr_:=Option.some.inj h
 subst hr_
 exact ⟨rfl,hS.ext⟩
end Go.Proofs.Ytifbomimeodibaa
