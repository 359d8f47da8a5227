import Derived.Test.YtifbomimeodibaaV6XD
import Derived.Test.YtifbomimeodibaaProg
import Derived.Test.YtifbomimeodibaaV6XW0
namespace Go.Proofs.Ytifbomimeodibaa
open Go Go.RowKit Go.Eng
set_option maxRecDepth 10000
set_option maxHeartbeats 4000000
set_option linter.unusedVariables false
set_option linter.unusedSimpArgs false
theorem Bv (F:Nat) (p0:law12_Thing) (p1:Int) (p2:Int) (p3:Int) (res:api_Span) (h:Ax F p0 p1 p2 p3=some res) (μ:Frz) (w0:World) (hm:FrzAt μ w0) {ad1:Option Addr} {cap2:Nat} (hA3:ArrM μ 1 (fK .i16) ad1 cap2 p0.Numbers):Calls Try.prog 33 #[.agg #[.int .u8 p0.Kind,.int .u32 p0.Time,.int .u8 p0.Sides.1,.int .u8 p0.Sides.2.1,.int .u8 p0.Sides.2.2,sv ad1 p0.Numbers cap2],iv p1,iv p2,iv p3] w0 (fun e w=>e=.returned (.agg #[iv res.Lo,iv res.Hi])∧Ext w0 w):=by
 obtain ⟨hlow,hS⟩:=hm.init
 have hext:=Frz.ext_refl w0.heap.size μ
 rw [Ax] at h
 refine Ap Try.func33 rfl 26 [(0,.agg #[.int .u8 p0.Kind,.int .u32 p0.Time,.int .u8 p0.Sides.1,.int .u8 p0.Sides.2.1,.int .u8 p0.Sides.2.2,sv ad1 p0.Numbers cap2]),(1,iv p1),(2,iv p2),(3,iv p3)] rfl rfl kr fun a w hw hF=>?_
 replace hS:=hS.cast hw
 clear hw
 refine esr ?_
 refine SK.wi (Fk (t:=58) (fun b4=>[(1,iv p1),(2,iv p2),(3,iv p3),(4,pb b4)]) (.agg #[.int .u8 p0.Kind,.int .u32 p0.Time,.int .u8 p0.Sides.1,.int .u8 p0.Sides.2.1,.int .u8 p0.Sides.2.2,sv ad1 p0.Numbers cap2]) #[.int .u8 p0.Kind,.int .u32 p0.Time,.int .u8 p0.Sides.1,.int .u8 p0.Sides.2.1,.int .u8 p0.Sides.2.2,sv ad1 p0.Numbers cap2] hF hS kr ⟨kr⟩ kr (fun _=>⟨kr⟩) fun b4 w a hF hS=>?_)
 refine SK.wi (Bs (t:=85) (fun b5=>[(1,iv p1),(2,iv p2),(3,iv p3),(4,pb b4),(8,pb b5)]) #[iv 0,iv 0] hF hS kr ⟨kr⟩ kr (fun _=>⟨kr⟩) fun b5 w a hF hS=>?_)
 refine wfn rfl ?_
 refine esr ?_
 replace h:=A5 h
 obtain ⟨y6,hy6,h⟩:=h
 replace h:=A5 h
 obtain ⟨x7,hx7,h⟩:=h
 refine rx 6 [.run [] (Instr.loadAt 58 (pb b4)) (.agg #[.int .u8 p0.Kind,.int .u32 p0.Time,.int .u8 p0.Sides.1,.int .u8 p0.Sides.2.1,.int .u8 p0.Sides.2.2,sv ad1 p0.Numbers cap2]),.call [] 31 #[.agg #[.int .u8 p0.Kind,.int .u32 p0.Time,.int .u8 p0.Sides.1,.int .u8 p0.Sides.2.1,.int .u8 p0.Sides.2.2,sv ad1 p0.Numbers cap2],iv p1,iv 300] (iv y6),.run [] (binOp .add 3 (iv p2) (iv y6)) (iv x7)] 6 [(1,iv p1),(3,iv p3),(4,pb b4),(8,pb b5),(15,.agg #[iv x7,iv 0])] hF (A0 (obN (us:=[.int .u8 p0.Kind,.int .u32 p0.Time,.int .u8 p0.Sides.1,.int .u8 p0.Sides.2.1,.int .u8 p0.Sides.2.2,sv ad1 p0.Numbers cap2]) kr (fun _ hd=>((hS.later hd).blk (i:=1) rfl).cells rfl)) (A0 (show Ob.ok _ Ext _ _ from fun hk w2 hd=>A9 F (law12_Thing.mk p0.Kind p0.Time (p0.Sides.1,p0.Sides.2.1,p0.Sides.2.2) p0.Numbers) p1 300 _ ((fun _=>hy6) hk) _ w2 (A7 w2) (hA3.mono (FrzAt.le_mem ((hS.later hd).frz (i:=2) rfl hlow)))) (A0 (Av (fun _=>hx7)) Ab))) fun a w hF hx=>?_
 replace hS:=hS.later hx
 refine SK.wi (Bs (t:=85) (fun b8=>[(1,iv p1),(3,iv p3),(4,pb b4),(8,pb b5),(9,pb b8),(15,.agg #[iv x7,iv 0])]) #[iv 0,iv 0] hF hS kr ⟨kr⟩ kr (fun _=>⟨kr⟩) fun b8 w a hF hS=>?_)
 refine SK.wi (Ao (t:=85) [(1,iv p1),(3,iv p3),(4,pb b4),(8,pb b5),(9,pb b8)] 0 0 (.agg #[iv x7,iv 0]) #[iv x7,iv 0] hF hS rfl kr ⟨kr⟩ kr kr kr kr ⟨kr⟩ fun w a hF hS=>?_)
 refine wfn rfl ?_
 refine Ay ?_
 replace h:=A5 h
 obtain ⟨x9,hx9,h⟩:=h
 replace h:=A5 h
 obtain ⟨a1,a3,h⟩:=h
 replace h:=A5 h
 obtain ⟨a0,a2,h⟩:=h
 refine Nl (obs:=[.run [] (Instr.loadAt 3 (pb b8)) (iv x7),.run [] (Instr.loadAt 58 (pb b4)) (.agg #[.int .u8 p0.Kind,.int .u32 p0.Time,.int .u8 p0.Sides.1,.int .u8 p0.Sides.2.1,.int .u8 p0.Sides.2.2,sv ad1 p0.Numbers cap2]),.run [] (binOp .add 3 (iv p1) (iv 1)) (iv x9),.call [] 31 #[.agg #[.int .u8 p0.Kind,.int .u32 p0.Time,.int .u8 p0.Sides.1,.int .u8 p0.Sides.2.1,.int .u8 p0.Sides.2.2,sv ad1 p0.Numbers cap2],iv x9,iv p3] (iv a1),.run [] (binOp .add 3 (iv x7) (iv a1)) (iv a0)]) 9 [(8,pb b5),(9,pb b8),(23,iv a0),(24,.pointer (some ⟨b8,1,none⟩))] kr hF kr (A0 (ob1 kr (fun _ hd=>(hS.later hd).cell (i:=0) (j:=0) rfl rfl)) (A0 (obN (us:=[.int .u8 p0.Kind,.int .u32 p0.Time,.int .u8 p0.Sides.1,.int .u8 p0.Sides.2.1,.int .u8 p0.Sides.2.2,sv ad1 p0.Numbers cap2]) kr (fun _ hd=>((hS.later hd).blk (i:=2) rfl).cells rfl)) (A0 (Av (fun _=>hx9)) (A0 (show Ob.ok _ Ext _ _ from fun hk w2 hd=>A9 F (law12_Thing.mk p0.Kind p0.Time (p0.Sides.1,p0.Sides.2.1,p0.Sides.2.2) p0.Numbers) x9 p3 _ ((fun _=>a3) hk) _ w2 (A7 w2) (hA3.mono (FrzAt.le_mem ((hS.later hd).frz (i:=3) rfl hlow)))) (A0 (Av (fun _=>a2)) Ab))))) ⟨kr⟩ fun a w hF hx=>?_
 replace hS:=hS.later hx
 refine SK.wi (Ao (t:=3) [(8,pb b5),(9,pb b8)] 0 1 (iv a0) #[iv x7,iv a0] hF hS rfl kr ⟨kr⟩ kr kr kr kr ⟨kr⟩ fun w a hF hS=>?_)
 refine wfn rfl ?_
 refine esr ?_
 refine rno 1 [.run [] (Instr.loadAt 85 (pb b8)) (.agg #[iv x7,iv a0])] 1 [(8,pb b5),(25,.agg #[iv x7,iv a0])] hF (A0 (obN (us:=[iv x7,iv a0]) kr (fun _ hd=>((hS.at_ hd).blk (i:=0) rfl).cells rfl)) Ab) fun a hF=>?_
 refine SK.wi (Ao (t:=85) [(8,pb b5)] 1 0 (.agg #[iv x7,iv a0]) #[iv x7,iv a0] hF hS rfl kr ⟨kr⟩ kr kr kr kr ⟨kr⟩ fun w a hF hS=>?_)
 refine wfn rfl ?_
 refine wpIn_ret (Ah [.cell 8 85] [.agg #[iv x7,iv a0]] hF rfl ⟨⟨_,rfl,Fl (cs:=[iv x7,iv a0]) kr ((hS.blk (i:=1) rfl).cells rfl)⟩,trivial⟩ ?_)
 have hr_:=Option.some.inj h
 subst hr_
 exact ⟨rfl,hS.ext⟩
theorem Pm (F:Nat) (p0:(List Int)) (p1:(List Int)) (res:Bool) (h:H3 F p0 p1=some res) (μ:Frz) (w0:World) (hm:FrzAt μ w0) {ad1:Option Addr} {cap2:Nat} {ad4:Option Addr} {cap5:Nat} (hA3:ArrM μ 1 (fK .u8) ad1 cap2 p0) (hA6:ArrM μ 1 (fK .u8) ad4 cap5 p1):Calls Try.prog 22 #[sv ad1 p0 cap2,sv ad4 p1 cap5] w0 (fun e w=>e=.returned (.bool res)∧Ext w0 w):=by
 obtain ⟨hlow,hS⟩:=hm.init
 have hext:=Frz.ext_refl w0.heap.size μ
 rw [H3] at h
 refine Ap Try.func22 rfl 18 [(0,sv ad1 p0 cap2),(1,sv ad4 p1 cap5)] rfl rfl kr fun a w hw hF=>?_
 replace hS:=hS.cast hw
 clear hw
 refine esr ?_
 refine rn 1 1 [(0,sv ad1 p0 cap2),(1,sv ad4 p1 cap5)] hF fun a hF=>?_
 refine wfn rfl ?_
 refine esr ?_
 refine rn 6 6 [(0,sv ad1 p0 cap2),(1,sv ad4 p1 cap5),(10,.bool (decide ((ln p0)≥(ln p1))))] hF fun a hF=>?_
 rcases Bool.eq_false_or_eq_true ((decide ((ln p0)≥(ln p1)))) with hg7|hg7
 ·replace h:=Am h hg7
  rw [hg7] at hF
  replace h:=A5 h
  obtain ⟨l8,hl8,h⟩:=h
  have hA9:ArrM μ 1 (fK .u8) (Aq ad1 cap2 (0:Int).toNat 1) (cap2-(0:Int).toNat) l8:=fun w_ hw_=>(hA3 w_ hw_).cutD (Cz .u8) hl8
  refine rx 8 [.run [⟨10,true,true⟩] (Instr.sliceAt 23 (sv ad1 p0 cap2) none (some (iv (ln p1))) none) (.slice (Aq ad1 cap2 (0:Int).toNat 1) l8.length (cap2-(0:Int).toNat)),.call [⟨10,true,true⟩] 35 #[.slice (Aq ad1 cap2 (0:Int).toNat 1) l8.length (cap2-(0:Int).toNat),sv ad4 p1 cap5] (.bool (Es l8 p1))] 14 [(4,.bool (Es l8 p1))] hF (A0 (Se kr (hA3 _ (hS.frz (i:=0) rfl hlow)) (fun _=>hl8)) (A0 (show Ob.ok _ Ext _ _ from fun hk w2 hd=>N6 l8 p1 _ rfl _ w2 (A7 w2) (hA9.mono (FrzAt.le_mem ((hS.later hd).frz (i:=0) rfl hlow))) (hA6.mono (FrzAt.le_mem ((hS.later hd).frz (i:=0) rfl hlow)))) Ab)) fun a w hF hx=>?_
  replace hS:=hS.later hx
  refine wfn rfl ?_
  refine wpIn_ret (Ah [.tmp 4] [.bool (Es l8 p1)] hF rfl ⟨rfl,trivial⟩ ?_)
  have hr_:=Option.some.inj h
  subst hr_
  exact ⟨rfl,hS.ext⟩
 ·replace h:=Al h hg7
  rw [hg7] at hF
  refine F3 7 [(1,sv ad4 p1 cap5),(10,.bool false),(11,undef)] hF kr ⟨kr⟩ ⟨kr⟩ rfl fun a hF=>?_
  refine F3 8 [(1,sv ad4 p1 cap5),(10,.bool false),(11,undef),(12,undef)] hF kr ⟨kr⟩ ⟨kr⟩ rfl fun a hF=>?_
  refine F3 9 [(1,sv ad4 p1 cap5),(10,.bool false),(11,undef),(13,undef)] hF kr ⟨kr⟩ ⟨kr⟩ rfl fun a hF=>?_
  refine F3 10 [(1,sv ad4 p1 cap5),(10,.bool false),(14,undef)] hF kr ⟨kr⟩ ⟨kr⟩ rfl fun a hF=>?_
  refine F3 11 [(10,.bool false),(14,undef),(15,undef)] hF kr ⟨kr⟩ ⟨kr⟩ rfl fun a hF=>?_
  refine F3 12 [(10,.bool false),(16,undef)] hF kr ⟨kr⟩ ⟨kr⟩ rfl fun a hF=>?_
  refine rn 2 14 [(4,.bool false)] hF fun a hF=>?_
  refine wfn rfl ?_
  refine wpIn_ret (Ah [.tmp 4] [.bool false] hF rfl ⟨rfl,trivial⟩ ?_)
  have hr_:=Option.some.inj h
  subst hr_
  exact ⟨rfl,hS.ext⟩
theorem Md (p0:(List Int)) (res:Unit) (h:Pi p0=res) (μ:Frz) (w0:World) (hm:FrzAt μ w0) {ad1:Option Addr} {cap2:Nat} (hA3:ArrM μ 1 (fK .u8) ad1 cap2 p0):Df Try.prog 23 #[sv ad1 p0 cap2] w0 (fun e w=>∃zb0,e=(.func (.func 36) #[] #[pb zb0])∧St w0 [blk zb0 23 #[sv ad1 p0 cap2]] w):=by
 obtain ⟨hlow,hS⟩:=hm.init
 have hext:=Frz.ext_refl w0.heap.size μ
 rw [Pi] at h
 refine Ap Try.func23 rfl 4 [(0,sv ad1 p0 cap2)] rfl rfl kr fun a w hw hF=>?_
 replace hS:=hS.cast hw
 clear hw
 refine esr ?_
 refine SK.wi (Fk (t:=23) (fun b4=>[(1,pb b4)]) (sv ad1 p0 cap2) #[sv ad1 p0 cap2] hF hS kr ⟨kr⟩ kr (fun _=>⟨kr⟩) fun b4 w a hF hS=>?_)
 refine rn 1 2 [(1,pb b4)] hF fun a hF=>?_
 refine wfn rfl ?_
 refine esr ?_
 refine rn 2 2 [(2,.func (.func 36) #[] #[pb b4])] hF fun a hF=>?_
 refine wfn rfl ?_
 refine wpIn_ret (Ah [.tmp 2] [.func (.func 36) #[] #[pb b4]] hF rfl ⟨rfl,trivial⟩ ?_)
 subst h
 exact ⟨_,rfl,b4,rfl,St.pick [0] (by decide) hS⟩
theorem Pf (F:Nat) (p0:volume_Item) (p1:volume_Item) (res:Bool) (h:Mo F p0 p1=some res) (μ:Frz) (w0:World) (hm:FrzAt μ w0) {ad1:Option Addr} {cap2:Nat} {css3:List (List Value)} {ad4:Option Addr} {cap5:Nat} {ad8:Option Addr} {cap9:Nat} {a6:List (List Value)} {a1:Option Addr} {a3:Nat} (hA6:ArrQ μ 1 Rp83 ad1 cap2 css3 p0.Sweep.Rays) (hA7:ArrM μ 2 api_Span.cells ad4 cap5 p0.Field.Vals) (a7:ArrQ μ 1 Rp83 ad8 cap9 a6 p1.Sweep.Rays) (a8:ArrM μ 2 api_Span.cells a1 a3 p1.Field.Vals):Calls Try.prog 14 #[.agg #[iv p0.Kind,.string p0.Name,iv p0.Time,.string p0.Sweep.Site.Name,iv p0.Sweep.Site.X,iv p0.Sweep.Site.Y,iv p0.Sweep.Site.Z,iv p0.Sweep.Site.Rose,iv p0.Sweep.Site.Gates,iv p0.Sweep.Site.Step,iv p0.Sweep.Site.Width,iv p0.Sweep.Tilt,iv p0.Sweep.Time,sv ad1 p0.Sweep.Rays cap2,iv p0.Field.Grid.X,iv p0.Field.Grid.Y,iv p0.Field.Grid.Size,iv p0.Field.Grid.Wide,iv p0.Field.Grid.High,sv ad4 p0.Field.Vals cap5,.string p0.Text],.agg #[iv p1.Kind,.string p1.Name,iv p1.Time,.string p1.Sweep.Site.Name,iv p1.Sweep.Site.X,iv p1.Sweep.Site.Y,iv p1.Sweep.Site.Z,iv p1.Sweep.Site.Rose,iv p1.Sweep.Site.Gates,iv p1.Sweep.Site.Step,iv p1.Sweep.Site.Width,iv p1.Sweep.Tilt,iv p1.Sweep.Time,sv ad8 p1.Sweep.Rays cap9,iv p1.Field.Grid.X,iv p1.Field.Grid.Y,iv p1.Field.Grid.Size,iv p1.Field.Grid.Wide,iv p1.Field.Grid.High,sv a1 p1.Field.Vals a3,.string p1.Text]] w0 (fun e w=>e=.returned (.bool res)∧Ext w0 w):=by
 obtain ⟨hlow,hS⟩:=hm.init
 have hext:=Frz.ext_refl w0.heap.size μ
 rw [Mo] at h
 refine Ap Try.func14 rfl 45 [(0,.agg #[iv p0.Kind,.string p0.Name,iv p0.Time,.string p0.Sweep.Site.Name,iv p0.Sweep.Site.X,iv p0.Sweep.Site.Y,iv p0.Sweep.Site.Z,iv p0.Sweep.Site.Rose,iv p0.Sweep.Site.Gates,iv p0.Sweep.Site.Step,iv p0.Sweep.Site.Width,iv p0.Sweep.Tilt,iv p0.Sweep.Time,sv ad1 p0.Sweep.Rays cap2,iv p0.Field.Grid.X,iv p0.Field.Grid.Y,iv p0.Field.Grid.Size,iv p0.Field.Grid.Wide,iv p0.Field.Grid.High,sv ad4 p0.Field.Vals cap5,.string p0.Text]),(1,.agg #[iv p1.Kind,.string p1.Name,iv p1.Time,.string p1.Sweep.Site.Name,iv p1.Sweep.Site.X,iv p1.Sweep.Site.Y,iv p1.Sweep.Site.Z,iv p1.Sweep.Site.Rose,iv p1.Sweep.Site.Gates,iv p1.Sweep.Site.Step,iv p1.Sweep.Site.Width,iv p1.Sweep.Tilt,iv p1.Sweep.Time,sv ad8 p1.Sweep.Rays cap9,iv p1.Field.Grid.X,iv p1.Field.Grid.Y,iv p1.Field.Grid.Size,iv p1.Field.Grid.Wide,iv p1.Field.Grid.High,sv a1 p1.Field.Vals a3,.string p1.Text])] rfl rfl kr fun a w hw hF=>?_
 replace hS:=hS.cast hw
 clear hw
 refine esr ?_
 refine SK.wi (Fk (t:=46) (fun a0=>[(1,.agg #[iv p1.Kind,.string p1.Name,iv p1.Time,.string p1.Sweep.Site.Name,iv p1.Sweep.Site.X,iv p1.Sweep.Site.Y,iv p1.Sweep.Site.Z,iv p1.Sweep.Site.Rose,iv p1.Sweep.Site.Gates,iv p1.Sweep.Site.Step,iv p1.Sweep.Site.Width,iv p1.Sweep.Tilt,iv p1.Sweep.Time,sv ad8 p1.Sweep.Rays cap9,iv p1.Field.Grid.X,iv p1.Field.Grid.Y,iv p1.Field.Grid.Size,iv p1.Field.Grid.Wide,iv p1.Field.Grid.High,sv a1 p1.Field.Vals a3,.string p1.Text]),(2,pb a0)]) (.agg #[iv p0.Kind,.string p0.Name,iv p0.Time,.string p0.Sweep.Site.Name,iv p0.Sweep.Site.X,iv p0.Sweep.Site.Y,iv p0.Sweep.Site.Z,iv p0.Sweep.Site.Rose,iv p0.Sweep.Site.Gates,iv p0.Sweep.Site.Step,iv p0.Sweep.Site.Width,iv p0.Sweep.Tilt,iv p0.Sweep.Time,sv ad1 p0.Sweep.Rays cap2,iv p0.Field.Grid.X,iv p0.Field.Grid.Y,iv p0.Field.Grid.Size,iv p0.Field.Grid.Wide,iv p0.Field.Grid.High,sv ad4 p0.Field.Vals cap5,.string p0.Text]) #[iv p0.Kind,.string p0.Name,iv p0.Time,.string p0.Sweep.Site.Name,iv p0.Sweep.Site.X,iv p0.Sweep.Site.Y,iv p0.Sweep.Site.Z,iv p0.Sweep.Site.Rose,iv p0.Sweep.Site.Gates,iv p0.Sweep.Site.Step,iv p0.Sweep.Site.Width,iv p0.Sweep.Tilt,iv p0.Sweep.Time,sv ad1 p0.Sweep.Rays cap2,iv p0.Field.Grid.X,iv p0.Field.Grid.Y,iv p0.Field.Grid.Size,iv p0.Field.Grid.Wide,iv p0.Field.Grid.High,sv ad4 p0.Field.Vals cap5,.string p0.Text] hF hS kr ⟨kr⟩ kr (fun _=>⟨kr⟩) fun a0 w a hF hS=>?_)
 refine SK.wi (Fk (t:=46) (fun a2=>[(2,pb a0),(3,pb a2)]) (.agg #[iv p1.Kind,.string p1.Name,iv p1.Time,.string p1.Sweep.Site.Name,iv p1.Sweep.Site.X,iv p1.Sweep.Site.Y,iv p1.Sweep.Site.Z,iv p1.Sweep.Site.Rose,iv p1.Sweep.Site.Gates,iv p1.Sweep.Site.Step,iv p1.Sweep.Site.Width,iv p1.Sweep.Tilt,iv p1.Sweep.Time,sv ad8 p1.Sweep.Rays cap9,iv p1.Field.Grid.X,iv p1.Field.Grid.Y,iv p1.Field.Grid.Size,iv p1.Field.Grid.Wide,iv p1.Field.Grid.High,sv a1 p1.Field.Vals a3,.string p1.Text]) #[iv p1.Kind,.string p1.Name,iv p1.Time,.string p1.Sweep.Site.Name,iv p1.Sweep.Site.X,iv p1.Sweep.Site.Y,iv p1.Sweep.Site.Z,iv p1.Sweep.Site.Rose,iv p1.Sweep.Site.Gates,iv p1.Sweep.Site.Step,iv p1.Sweep.Site.Width,iv p1.Sweep.Tilt,iv p1.Sweep.Time,sv ad8 p1.Sweep.Rays cap9,iv p1.Field.Grid.X,iv p1.Field.Grid.Y,iv p1.Field.Grid.Size,iv p1.Field.Grid.Wide,iv p1.Field.Grid.High,sv a1 p1.Field.Vals a3,.string p1.Text] hF hS kr ⟨kr⟩ kr (fun _=>⟨kr⟩) fun a2 w a hF hS=>?_)
 refine rn 1 3 [(2,pb a0),(3,pb a2)] hF fun a hF=>?_
 refine wfn rfl ?_
 refine esr ?_
 replace h:=A5 h
 obtain ⟨a4,a9,h⟩:=h
 replace h:=A5 h
 obtain ⟨a5,aA,h⟩:=h
 refine rx 41 [.run [] (Instr.loadAt 3 (pb a0)) (iv p0.Kind),.run [] (Instr.loadAt 3 (pb a2)) (iv p1.Kind),.run [⟨10,true,(p0.Kind==p1.Kind)⟩] (Instr.loadAt 9 (.pointer (some ⟨a0,1,none⟩))) (.string p0.Name),.run [⟨10,true,(p0.Kind==p1.Kind)⟩] (Instr.loadAt 9 (.pointer (some ⟨a2,1,none⟩))) (.string p1.Name),.run [⟨10,true,(p0.Kind==p1.Kind)⟩] (Lx .eql 9 p0.Name p1.Name) (.bool (sEq p0.Name p1.Name)),.run [⟨17,true,(bif (p0.Kind==p1.Kind) then (sEq p0.Name p1.Name) else false)⟩] (Instr.loadAt 3 (.pointer (some ⟨a0,2,none⟩))) (iv p0.Time),.run [⟨17,true,(bif (p0.Kind==p1.Kind) then (sEq p0.Name p1.Name) else false)⟩] (Instr.loadAt 3 (.pointer (some ⟨a2,2,none⟩))) (iv p1.Time),.run [⟨24,true,(bif (bif (p0.Kind==p1.Kind) then (sEq p0.Name p1.Name) else false) then (p0.Time==p1.Time) else false)⟩] (Instr.loadAt 9 (.pointer (some ⟨a0,20,none⟩))) (.string p0.Text),.run [⟨24,true,(bif (bif (p0.Kind==p1.Kind) then (sEq p0.Name p1.Name) else false) then (p0.Time==p1.Time) else false)⟩] (Instr.loadAt 9 (.pointer (some ⟨a2,20,none⟩))) (.string p1.Text),.run [⟨24,true,(bif (bif (p0.Kind==p1.Kind) then (sEq p0.Name p1.Name) else false) then (p0.Time==p1.Time) else false)⟩] (Lx .eql 9 p0.Text p1.Text) (.bool (sEq p0.Text p1.Text)),.run [⟨31,true,(bif (bif (bif (p0.Kind==p1.Kind) then (sEq p0.Name p1.Name) else false) then (p0.Time==p1.Time) else false) then (sEq p0.Text p1.Text) else false)⟩] (Instr.loadAt 39 (.pointer (some ⟨a0,3,none⟩))) (.agg #[.string p0.Sweep.Site.Name,iv p0.Sweep.Site.X,iv p0.Sweep.Site.Y,iv p0.Sweep.Site.Z,iv p0.Sweep.Site.Rose,iv p0.Sweep.Site.Gates,iv p0.Sweep.Site.Step,iv p0.Sweep.Site.Width,iv p0.Sweep.Tilt,iv p0.Sweep.Time,sv ad1 p0.Sweep.Rays cap2]),.run [⟨31,true,(bif (bif (bif (p0.Kind==p1.Kind) then (sEq p0.Name p1.Name) else false) then (p0.Time==p1.Time) else false) then (sEq p0.Text p1.Text) else false)⟩] (Instr.loadAt 39 (.pointer (some ⟨a2,3,none⟩))) (.agg #[.string p1.Sweep.Site.Name,iv p1.Sweep.Site.X,iv p1.Sweep.Site.Y,iv p1.Sweep.Site.Z,iv p1.Sweep.Site.Rose,iv p1.Sweep.Site.Gates,iv p1.Sweep.Site.Step,iv p1.Sweep.Site.Width,iv p1.Sweep.Tilt,iv p1.Sweep.Time,sv ad8 p1.Sweep.Rays cap9]),.call [⟨31,true,(bif (bif (bif (p0.Kind==p1.Kind) then (sEq p0.Name p1.Name) else false) then (p0.Time==p1.Time) else false) then (sEq p0.Text p1.Text) else false)⟩] 28 #[.agg #[.string p0.Sweep.Site.Name,iv p0.Sweep.Site.X,iv p0.Sweep.Site.Y,iv p0.Sweep.Site.Z,iv p0.Sweep.Site.Rose,iv p0.Sweep.Site.Gates,iv p0.Sweep.Site.Step,iv p0.Sweep.Site.Width,iv p0.Sweep.Tilt,iv p0.Sweep.Time,sv ad1 p0.Sweep.Rays cap2],.agg #[.string p1.Sweep.Site.Name,iv p1.Sweep.Site.X,iv p1.Sweep.Site.Y,iv p1.Sweep.Site.Z,iv p1.Sweep.Site.Rose,iv p1.Sweep.Site.Gates,iv p1.Sweep.Site.Step,iv p1.Sweep.Site.Width,iv p1.Sweep.Tilt,iv p1.Sweep.Time,sv ad8 p1.Sweep.Rays cap9]] (.bool a4),.run [⟨38,true,(bif (bif (bif (bif (p0.Kind==p1.Kind) then (sEq p0.Name p1.Name) else false) then (p0.Time==p1.Time) else false) then (sEq p0.Text p1.Text) else false) then a4 else false)⟩] (Instr.loadAt 44 (.pointer (some ⟨a0,14,none⟩))) (.agg #[iv p0.Field.Grid.X,iv p0.Field.Grid.Y,iv p0.Field.Grid.Size,iv p0.Field.Grid.Wide,iv p0.Field.Grid.High,sv ad4 p0.Field.Vals cap5]),.run [⟨38,true,(bif (bif (bif (bif (p0.Kind==p1.Kind) then (sEq p0.Name p1.Name) else false) then (p0.Time==p1.Time) else false) then (sEq p0.Text p1.Text) else false) then a4 else false)⟩] (Instr.loadAt 44 (.pointer (some ⟨a2,14,none⟩))) (.agg #[iv p1.Field.Grid.X,iv p1.Field.Grid.Y,iv p1.Field.Grid.Size,iv p1.Field.Grid.Wide,iv p1.Field.Grid.High,sv a1 p1.Field.Vals a3]),.call [⟨38,true,(bif (bif (bif (bif (p0.Kind==p1.Kind) then (sEq p0.Name p1.Name) else false) then (p0.Time==p1.Time) else false) then (sEq p0.Text p1.Text) else false) then a4 else false)⟩] 29 #[.agg #[iv p0.Field.Grid.X,iv p0.Field.Grid.Y,iv p0.Field.Grid.Size,iv p0.Field.Grid.Wide,iv p0.Field.Grid.High,sv ad4 p0.Field.Vals cap5],.agg #[iv p1.Field.Grid.X,iv p1.Field.Grid.Y,iv p1.Field.Grid.Size,iv p1.Field.Grid.Wide,iv p1.Field.Grid.High,sv a1 p1.Field.Vals a3]] (.bool a5)] 41 [(4,.bool (bif (bif (bif (bif (bif (p0.Kind==p1.Kind) then (sEq p0.Name p1.Name) else false) then (p0.Time==p1.Time) else false) then (sEq p0.Text p1.Text) else false) then a4 else false) then a5 else false))] hF (A0 (ob1 kr (fun _ hd=>(hS.later hd).cell (i:=1) (j:=0) rfl rfl)) (A0 (ob1 kr (fun _ hd=>(hS.later hd).cell (i:=0) (j:=0) rfl rfl)) (A0 (ob1 kr (fun _ hd=>(hS.later hd).cell (i:=1) (j:=1) rfl rfl)) (A0 (ob1 kr (fun _ hd=>(hS.later hd).cell (i:=0) (j:=1) rfl rfl)) (A0 Qh (A0 (ob1 kr (fun _ hd=>(hS.later hd).cell (i:=1) (j:=2) rfl rfl)) (A0 (ob1 kr (fun _ hd=>(hS.later hd).cell (i:=0) (j:=2) rfl rfl)) (A0 (ob1 kr (fun _ hd=>(hS.later hd).cell (i:=1) (j:=20) rfl rfl)) (A0 (ob1 kr (fun _ hd=>(hS.later hd).cell (i:=0) (j:=20) rfl rfl)) (A0 Qh (A0 (obN (us:=[.string p0.Sweep.Site.Name,iv p0.Sweep.Site.X,iv p0.Sweep.Site.Y,iv p0.Sweep.Site.Z,iv p0.Sweep.Site.Rose,iv p0.Sweep.Site.Gates,iv p0.Sweep.Site.Step,iv p0.Sweep.Site.Width,iv p0.Sweep.Tilt,iv p0.Sweep.Time,sv ad1 p0.Sweep.Rays cap2]) kr (fun _ hd=>((hS.later hd).blk (i:=1) rfl).cells rfl)) (A0 (obN (us:=[.string p1.Sweep.Site.Name,iv p1.Sweep.Site.X,iv p1.Sweep.Site.Y,iv p1.Sweep.Site.Z,iv p1.Sweep.Site.Rose,iv p1.Sweep.Site.Gates,iv p1.Sweep.Site.Step,iv p1.Sweep.Site.Width,iv p1.Sweep.Tilt,iv p1.Sweep.Time,sv ad8 p1.Sweep.Rays cap9]) kr (fun _ hd=>((hS.later hd).blk (i:=0) rfl).cells rfl)) (A0 (show Ob.ok _ Ext _ _ from fun hk w2 hd=>S7 F p0.Sweep p1.Sweep _ ((fun hk=>Gb a9 hk) hk) _ w2 (A7 w2) (hA6.mono Rp83.mono (FrzAt.le_mem ((hS.later hd).frz (i:=2) rfl hlow))) (a7.mono Rp83.mono (FrzAt.le_mem ((hS.later hd).frz (i:=2) rfl hlow)))) (A0 (obN (us:=[iv p0.Field.Grid.X,iv p0.Field.Grid.Y,iv p0.Field.Grid.Size,iv p0.Field.Grid.Wide,iv p0.Field.Grid.High,sv ad4 p0.Field.Vals cap5]) kr (fun _ hd=>((hS.later hd).blk (i:=1) rfl).cells rfl)) (A0 (obN (us:=[iv p1.Field.Grid.X,iv p1.Field.Grid.Y,iv p1.Field.Grid.Size,iv p1.Field.Grid.Wide,iv p1.Field.Grid.High,sv a1 p1.Field.Vals a3]) kr (fun _ hd=>((hS.later hd).blk (i:=0) rfl).cells rfl)) (A0 (show Ob.ok _ Ext _ _ from fun hk w2 hd=>S6 F p0.Field p1.Field _ ((fun hk=>Gb aA hk) hk) _ w2 (A7 w2) (hA7.mono (FrzAt.le_mem ((hS.later hd).frz (i:=2) rfl hlow))) (a8.mono (FrzAt.le_mem ((hS.later hd).frz (i:=2) rfl hlow)))) Ab)))))))))))))))) fun a w hF hx=>?_
 replace hS:=hS.later hx
 refine wfn rfl ?_
 refine wpIn_ret (Ah [.tmp 4] [.bool (bif (bif (bif (bif (bif (p0.Kind==p1.Kind) then (sEq p0.Name p1.Name) else false) then (p0.Time==p1.Time) else false) then (sEq p0.Text p1.Text) else false) then a4 else false) then a5 else false)] hF rfl ⟨rfl,trivial⟩ ?_)
 have hr_:=Option.some.inj h
 subst hr_
 exact ⟨rfl,hS.ext⟩
end Go.Proofs.Ytifbomimeodibaa
